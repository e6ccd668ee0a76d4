import PyProof.Rows.All
import Wide.All
import OpenK.AllK
import Wide.FinOn
import HandS.ForMost
import HandS.DictComp
import HandS.NoneIn
import HandS.More
import KE.SortData
import KE.DataMinMax
import PyProof.CompMap
import KE.DataEq
import HandS.Walk
import HandS.AnyAll
import HandS.EndTab
import KE.KDictWalk
import HandS.Conv
import KE.KNest
import PySem.Challenge.RW_treeserved_k59_whole_nothing_moves_for_l
/-! Sums over lists of ints, by own words; no program in sight. -/
namespace K59
variable {β γ : Type}
/-- the sum of f over l -/
def sm (l : List β) (f : β → Int) : Int := (l.map f).sum
theorem sm_nil (f : β → Int) : sm [] f = 0 := rfl
theorem sm_cons (a : β) (l : List β) (f : β → Int) : sm (a :: l) f = f a + sm l f := by
  simp [sm, List.sum_cons]
theorem sm_append (l l' : List β) (f : β → Int) : sm (l ++ l') f = sm l f + sm l' f := by
  simp [sm, List.map_append, List.sum_append]
theorem sm_congr {l : List β} {f g : β → Int} (h : ∀ x ∈ l, f x = g x) : sm l f = sm l g := by
  induction l with
  | nil => rfl
  | cons a l ih =>
    rw [sm_cons, sm_cons, h a List.mem_cons_self, ih fun x hx => h x (List.mem_cons_of_mem _ hx)]
theorem sm_add (l : List β) (f g : β → Int) : sm l (fun x => f x + g x) = sm l f + sm l g := by
  induction l with
  | nil => rfl
  | cons a l ih => rw [sm_cons, sm_cons, sm_cons, ih]; omega
theorem sm_sub (l : List β) (f g : β → Int) : sm l (fun x => f x - g x) = sm l f - sm l g := by
  induction l with
  | nil => rfl
  | cons a l ih => rw [sm_cons, sm_cons, sm_cons, ih]; omega
theorem sm_mul (l : List β) (c : Int) (f : β → Int) : sm l (fun x => c * f x) = c * sm l f := by
  induction l with
  | nil => simp [sm]
  | cons a l ih => rw [sm_cons, sm_cons, ih, Int.mul_add]
theorem sm_mulr (l : List β) (c : Int) (f : β → Int) : sm l (fun x => f x * c) = sm l f * c := by
  rw [Int.mul_comm, ← sm_mul]; exact sm_congr fun x _ => Int.mul_comm _ _
theorem sm_zero {l : List β} {f : β → Int} (h : ∀ x ∈ l, f x = 0) : sm l f = 0 := by
  induction l with
  | nil => rfl
  | cons a l ih => rw [sm_cons, h a List.mem_cons_self, ih fun x hx => h x (List.mem_cons_of_mem _ hx)]; rfl
theorem sm_comm (l : List β) (l' : List γ) (f : β → γ → Int) : sm l (fun x => sm l' (f x)) = sm l' (fun y => sm l fun x => f x y) := by
  induction l with
  | nil => rw [sm_nil]; exact (sm_zero fun _ _ => rfl).symm
  | cons a l ih =>
    rw [sm_cons, ih, ← sm_add]
    exact sm_congr fun y _ => (sm_cons a l fun x => f x y).symm
theorem sm_le {l : List β} {f g : β → Int} (h : ∀ x ∈ l, f x ≤ g x) : sm l f ≤ sm l g := by
  induction l with
  | nil => exact Int.le_refl _
  | cons a l ih =>
    rw [sm_cons, sm_cons]
    have h1 := h a List.mem_cons_self
    have h2 := ih fun x hx => h x (List.mem_cons_of_mem _ hx)
    omega
theorem sm_nonneg {l : List β} {f : β → Int} (h : ∀ x ∈ l, 0 ≤ f x) : 0 ≤ sm l f := by
  have := sm_le (l := l) (f := fun _ => 0) (g := f) h
  rwa [sm_zero fun _ _ => rfl] at this
theorem sm_lt {l : List β} {f g : β → Int} (h : ∀ x ∈ l, f x ≤ g x) {a : β} (ha : a ∈ l) (hl : f a < g a) : sm l f < sm l g := by
  induction l with
  | nil => cases ha
  | cons b l ih =>
    rw [sm_cons, sm_cons]
    have h1 := h b List.mem_cons_self
    have h2 := sm_le fun x hx => h x (List.mem_cons_of_mem b hx)
    rcases List.mem_cons.mp ha with e | e
    · subst e; omega
    · have := ih (fun x hx => h x (List.mem_cons_of_mem _ hx)) e
      omega
theorem sm_perm {l l' : List β} (p : l.Perm l') (f : β → Int) : sm l f = sm l' f := by
  induction p with
  | nil => rfl
  | cons a _ ih => rw [sm_cons, sm_cons, ih]
  | swap a b l => rw [sm_cons, sm_cons, sm_cons, sm_cons]; omega
  | trans _ _ ih1 ih2 => rw [ih1, ih2]
theorem sm_map {δ : Type} (l : List δ) (g : δ → β) (f : β → Int) : sm (l.map g) f = sm l fun x => f (g x) := by
  simp [sm, List.map_map, Function.comp_def]
theorem sm_ite_out {l : List β} [DecidableEq β] {a : β} {f : β → Int} (h : a ∉ l) : sm l (fun x => if x = a then f x else 0) = 0 :=
  sm_zero fun x hx => if_neg fun (e : x = a) => h (e ▸ hx)
theorem sm_single [DecidableEq β] {l : List β} (nd : l.Nodup) {a : β} (ha : a ∈ l) (f : β → Int) : sm l (fun x => if x = a then f x else 0) = f a := by
  induction l with
  | nil => cases ha
  | cons b l ih =>
    rw [sm_cons]
    have nd' := List.nodup_cons.mp nd
    rcases List.mem_cons.mp ha with e | e
    · subst e
      rw [if_pos rfl, sm_ite_out nd'.1]; omega
    · rw [if_neg (fun z : b = a => nd'.1 (z ▸ e)), ih nd'.2 e]; omega
theorem sm_filter (l : List β) (p : β → Bool) (f : β → Int) : sm (l.filter p) f = sm l fun x => if p x = true then f x else 0 := by
  induction l with
  | nil => rfl
  | cons a l ih =>
    rw [List.filter_cons, sm_cons]
    cases h : p a with
    | true => rw [if_pos rfl, sm_cons, ih, if_pos rfl]
    | false => rw [if_neg (by simp), ih, if_neg (by simp)]; omega
theorem sm_filterMap {l : List β} {g : β → Option γ} {f : γ → Int} : sm (l.filterMap g) f = sm l fun x => match g x with | some y => f y | none => 0 := by
  induction l with
  | nil => rfl
  | cons a l ih =>
    rw [List.filterMap_cons, sm_cons]
    cases h : g a with
    | none => simp only [ih]; omega
    | some y => simp only [sm_cons, ih]
/-- a sum of terms that are not negative is zero: each is -/
theorem sm_zero_of {l : List β} {f : β → Int} (h : ∀ x ∈ l, 0 ≤ f x) (e : sm l f = 0) : ∀ x ∈ l, f x = 0 := by
  intro x hx
  by_cases hz : f x = 0
  · exact hz
  · have h0 := h x hx
    have := sm_lt (f := fun _ => 0) (g := f) h hx (by omega)
    rw [sm_zero fun _ _ => rfl, e] at this
    omega
/-- one that is greater than zero, if the sum is zero and one is not zero -/
theorem sm_pos_of {l : List β} {f : β → Int} (e : sm l f = 0) {x : β} (hx : x ∈ l) (hz : f x ≠ 0) : ∃ y ∈ l, 0 < f y := by
  refine Classical.byContradiction fun hn => ?_
  have hle : ∀ y ∈ l, 0 ≤ - f y := fun y hy => by
    have : ¬ 0 < f y := fun h => hn ⟨y, hy, h⟩
    omega
  have e2 : sm l (fun y => - f y) = 0 := by
    have := sm_sub l (fun _ => 0) f
    rw [sm_zero fun _ _ => rfl, e] at this
    rw [← show sm l (fun x => 0 - f x) = sm l (fun y => - f y) from sm_congr fun y _ => by omega, this]; rfl
  have := sm_zero_of hle e2 x hx
  omega
/-- if the sum is greater than zero, some term is -/
theorem sm_pos_ex {l : List β} {f : β → Int} (h : 0 < sm l f) : ∃ y ∈ l, 0 < f y := by
  refine Classical.byContradiction fun hn => ?_
  have := sm_le (l := l) (f := f) (g := fun _ => 0) fun y hy => by
    have : ¬ 0 < f y := fun h => hn ⟨y, hy, h⟩
    omega
  rw [sm_zero fun _ _ => rfl] at this
  omega
end K59

/-! Trees by the cuts of their edges: the sum of Abel, walks and their lengths, sides. No program in sight. -/
namespace K59
section
variable {α : Type}
abbrev Ed (α : Type) := α × α × Int
/-- the nodes ns and the edges es make a tree; σ e: 1 on the side of e's first node, 0 on the other one -/
structure Good (ns : List α) (es : List (Ed α)) (σ : Ed α → α → Int) : Prop where
  nd : ns.Nodup
  ne : es.Nodup
  mem : ∀ e ∈ es, e.1 ∈ ns ∧ e.2.1 ∈ ns
  pos : ∀ e ∈ es, 0 ≤ e.2.2
  one : ∀ e ∈ es, σ e e.1 = 1 ∧ σ e e.2.1 = 0
  bin : ∀ e ∈ es, ∀ x, σ e x = 0 ∨ σ e x = 1
  cut : ∀ e ∈ es, ∀ e' ∈ es, e ≠ e' → σ e e'.1 = σ e e'.2.1
  conn : ∀ S : α → Prop, (∃ x, x ∈ ns ∧ S x) → (∀ e ∈ es, S e.1 ↔ S e.2.1) → ∀ x ∈ ns, S x

/-- the flow that m asks for over an edge, from its first node's side to the other one -/
def fl (ns : List α) (σ : Ed α → α → Int) (m : α → Int) (e : Ed α) : Int := sm ns fun x => σ e x * m x
def Adj (es : List (Ed α)) (x y : α) (l : Int) : Prop := (x, y, l) ∈ es ∨ (y, x, l) ∈ es
/-- a walk and its length -/
inductive Walk (es : List (Ed α)) : List α → Int → Prop
  | one (x : α) : Walk es [x] 0
  | cons {x y : α} {r : List α} {l L : Int} : Adj es x y l → Walk es (y :: r) L → Walk es (x :: y :: r) (l + L)

def ab (x : Int) : Int := max x (-x)
theorem ab_nonneg (x : Int) : 0 ≤ ab x := by unfold ab; omega
theorem ab_neg (x : Int) : ab (-x) = ab x := by unfold ab; omega
theorem ab_zero {x : Int} (h : ab x = 0) : x = 0 := by unfold ab at h; omega

variable {ns : List α} {es : List (Ed α)} {σ : Ed α → α → Int}
theorem Adj.symm {x y : α} {l : Int} (h : Adj es x y l) : Adj es y x l := h.elim .inr .inl
theorem Good.one_ne (G : Good ns es σ) {e : Ed α} (h : e ∈ es) : e.1 ≠ e.2.1 := fun q => by
  have := G.one e h
  rw [q] at this
  omega
theorem Good.adj_mem (G : Good ns es σ) {x y : α} {l : Int} (h : Adj es x y l) : x ∈ ns ∧ y ∈ ns := by
  rcases h with h | h
  · exact G.mem _ h
  · exact ⟨(G.mem _ h).2, (G.mem _ h).1⟩
theorem Good.adj_ne (G : Good ns es σ) {x y : α} {l : Int} (h : Adj es x y l) : x ≠ y := by
  rcases h with h | h
  · exact G.one_ne h
  · exact (G.one_ne h).symm
/-- an edge is told by its nodes, in either order -/
theorem Good.same (G : Good ns es σ) {e e' : Ed α} (h : e ∈ es) (h' : e' ∈ es) (q : (e'.1 = e.1 ∧ e'.2.1 = e.2.1) ∨ (e'.1 = e.2.1 ∧ e'.2.1 = e.1)) : e' = e := by
  refine Classical.byContradiction fun hn => ?_
  have c := G.cut e h e' h' (fun z => hn z.symm)
  have o := G.one e h
  rcases q with ⟨a, b⟩ | ⟨a, b⟩
  · rw [a, b] at c; omega
  · rw [a, b] at c; omega
theorem Good.adj_len (G : Good ns es σ) {x y : α} {l l' : Int} (h : Adj es x y l) (h' : Adj es x y l') : l = l' := by
  have key : ∀ {e e' : Ed α}, e ∈ es → e' ∈ es → ((e'.1 = e.1 ∧ e'.2.1 = e.2.1) ∨ (e'.1 = e.2.1 ∧ e'.2.1 = e.1)) → e'.2.2 = e.2.2 := fun a b q => by rw [G.same a b q]
  rcases h with h | h <;> rcases h' with h' | h'
  · exact (key h h' (.inl ⟨rfl, rfl⟩)).symm
  · exact (key h h' (.inr ⟨rfl, rfl⟩)).symm
  · exact (key h h' (.inr ⟨rfl, rfl⟩)).symm
  · exact (key h h' (.inl ⟨rfl, rfl⟩)).symm
/-- only its own edge is crossed by a step -/
theorem Good.step_other (G : Good ns es σ) {x y : α} {l : Int} (h : Adj es x y l) {e : Ed α} (he : e ∈ es) (h1 : ¬ (e.1 = x ∧ e.2.1 = y)) (h2 : ¬ (e.1 = y ∧ e.2.1 = x)) : σ e x = σ e y := by
  rcases h with h | h
  · exact G.cut e he _ h fun q => h1 (by rw [q]; exact ⟨rfl, rfl⟩)
  · exact (G.cut e he _ h fun q => h2 (by rw [q]; exact ⟨rfl, rfl⟩)).symm
end

section
variable {α : Type} [DecidableEq α] {ns : List α} {es : List (Ed α)} {σ : Ed α → α → Int}
/-- what the price rises by over an edge -/
theorem Good.pot (G : Good ns es σ) (d : Ed α → Int) {e' : Ed α} (h : e' ∈ es) : sm es (fun e => d e * σ e e'.1) - sm es (fun e => d e * σ e e'.2.1) = d e' := by
  rw [← sm_sub]
  have := sm_single G.ne h d
  rw [← this]
  refine sm_congr fun e he => ?_
  by_cases q : e = e'
  · subst q
    have o := G.one e h
    rw [if_pos rfl, o.1, o.2]; omega
  · rw [if_neg q, G.cut e he e' h q]; omega
theorem Good.abel (G : Good ns es σ) {m : α → Int} (h0 : sm ns m = 0) (p : α → Int) : sm ns (fun x => p x * m x) = sm es fun e => (p e.1 - p e.2.1) * fl ns σ m e := by
  have hc : ∃ c, ∀ x ∈ ns, p x = c + sm es (fun e => (p e.1 - p e.2.1) * σ e x) := by
    cases ns with
    | nil => exact ⟨0, fun x hx => nomatch hx⟩
    | cons r t =>
      refine ⟨p r - sm es (fun e => (p e.1 - p e.2.1) * σ e r), G.conn _ ⟨r, List.mem_cons_self, by omega⟩ fun e' he' => ?_⟩
      have := G.pot (fun e => p e.1 - p e.2.1) he'
      omega
  obtain ⟨c, hc⟩ := hc
  have e1 : sm ns (fun x => p x * m x) = sm ns (fun x => c * m x + sm es fun e => (p e.1 - p e.2.1) * (σ e x * m x)) := sm_congr fun x hx => by
    have := hc x hx
    rw [this, Int.add_mul, ← sm_mulr]
    congr 1
    exact sm_congr fun e _ => Int.mul_assoc _ _ _
  rw [e1, sm_add, sm_mul, h0, sm_comm]
  have e2 : ∀ e, sm ns (fun x => (p e.1 - p e.2.1) * (σ e x * m x)) = (p e.1 - p e.2.1) * fl ns σ m e := fun e => sm_mul _ _ _
  rw [sm_congr fun e _ => e2 e]; omega
/-- what leaves a node less what comes to it -/
theorem Good.node (G : Good ns es σ) {m : α → Int} (h0 : sm ns m = 0) {v : α} (hv : v ∈ ns) : m v = sm es fun e => ((if e.1 = v then 1 else 0) - (if e.2.1 = v then 1 else 0)) * fl ns σ m e := by
  have a := G.abel h0 fun x => if x = v then 1 else 0
  have b := sm_single G.nd hv m
  rw [← b, ← a]
  refine sm_congr fun x _ => ?_
  by_cases q : x = v
  · rw [if_pos q, if_pos q]; omega
  · rw [if_neg q, if_neg q]; omega
omit [DecidableEq α] in
theorem fl_sub (m d : α → Int) (e : Ed α) : fl ns σ (fun x => m x - d x) e = fl ns σ m e - fl ns σ d e := by
  unfold fl
  rw [← sm_sub]
  exact sm_congr fun x _ => Int.mul_sub _ _ _
theorem fl_single (nd : ns.Nodup) {s : α} (hs : s ∈ ns) (k : Int) (e : Ed α) : fl ns σ (fun x => if x = s then k else 0) e = σ e s * k := by
  unfold fl
  have := sm_single nd hs fun x => σ e x * k
  rw [← this]
  refine sm_congr fun x _ => ?_
  show σ e x * (if x = s then k else 0) = _
  by_cases q : x = s
  · rw [if_pos q, if_pos q]
  · rw [if_neg q, if_neg q]; omega

/-- the distance: the lengths of the edges between both -/
def dist (es : List (Ed α)) (σ : Ed α → α → Int) (x y : α) : Int := sm es fun e => e.2.2 * (if σ e x = σ e y then 0 else 1)
omit [DecidableEq α] in
theorem dist_self (x : α) : dist es σ x x = 0 := sm_zero fun e _ => by rw [if_pos rfl]; omega
omit [DecidableEq α] in
/-- a walk that spares a node of an edge stays on one side of it -/
theorem Good.walk_const (G : Good ns es σ) {w : List α} {L : Int} (W : Walk es w L) {e : Ed α} (he : e ∈ es) {a : α} (ha : a = e.1 ∨ a = e.2.1) (hn : a ∉ w) : ∀ y ∈ w, ∀ z ∈ w, σ e y = σ e z := by
  induction W with
  | one x =>
    intro y hy z hz
    rw [List.mem_singleton.mp hy, List.mem_singleton.mp hz]
  | @cons x y r l L h _ ih =>
    have ih' := ih fun z => hn (List.mem_cons_of_mem _ z)
    have st : σ e x = σ e y := by
      refine G.step_other h he (fun q => hn ?_) fun q => hn ?_
      · rcases ha with e1 | e1 <;> rw [e1]
        · rw [q.1]; exact List.mem_cons_self
        · rw [q.2]; exact List.mem_cons_of_mem _ List.mem_cons_self
      · rcases ha with e1 | e1 <;> rw [e1]
        · rw [q.1]; exact List.mem_cons_of_mem _ List.mem_cons_self
        · rw [q.2]; exact List.mem_cons_self
    intro y1 h1 z1 h2
    have toY : ∀ u ∈ x :: y :: r, σ e u = σ e y := fun u hu => by
      rcases List.mem_cons.mp hu with q | q
      · rw [q]; exact st
      · exact ih' u q y List.mem_cons_self
    rw [toY y1 h1, toY z1 h2]
theorem Good.walk_len (G : Good ns es σ) {w : List α} {L : Int} (W : Walk es w L) : w.Nodup → ∀ {a b : α}, w.head? = some a → w.getLast? = some b → L = dist es σ a b := by
  induction W with
  | one x =>
    intro _ a b ha hb
    have e1 : x = a := Option.some.inj ha
    have e2 : x = b := Option.some.inj hb
    rw [← e1, ← e2, dist_self]
  | @cons x y r l L h W ih =>
    intro nd a b ha hb
    have e1 : x = a := Option.some.inj ha
    subst e1
    have nd' := List.nodup_cons.mp nd
    rw [List.getLast?_cons_cons] at hb
    have ihL := ih nd'.2 rfl hb
    rw [ihL]
    have hbm : b ∈ y :: r := List.mem_of_getLast? hb
    obtain ⟨e0, he0, hl, hx⟩ : ∃ e0, e0 ∈ es ∧ e0.2.2 = l ∧ ((e0.1 = x ∧ e0.2.1 = y) ∨ (e0.1 = y ∧ e0.2.1 = x)) := by
      rcases h with h | h
      · exact ⟨_, h, rfl, .inl ⟨rfl, rfl⟩⟩
      · exact ⟨_, h, rfl, .inr ⟨rfl, rfl⟩⟩
    have hc : σ e0 b = σ e0 y := G.walk_const W he0 (a := x) (by rcases hx with q | q; exact .inl q.1.symm; exact .inr q.2.symm) nd'.1 b hbm y List.mem_cons_self
    have hxy : σ e0 x ≠ σ e0 y := by
      have o := G.one e0 he0
      rcases hx with ⟨q1, q2⟩ | ⟨q1, q2⟩
      · rw [← q1, ← q2]; omega
      · rw [← q1, ← q2]; omega
    have hs : dist es σ x b - dist es σ y b = l := by
      unfold dist
      rw [← sm_sub, ← hl, ← sm_single G.ne he0 fun e => e.2.2]
      refine sm_congr fun e he => ?_
      by_cases q : e = e0
      · rw [if_pos q, q, hc, if_pos rfl, if_neg hxy]; omega
      · rw [if_neg q]
        have := G.step_other h he (fun z => q (G.same he0 he (by rcases hx with ⟨q1, q2⟩ | ⟨q1, q2⟩; exact .inl ⟨z.1.trans q1.symm, z.2.trans q2.symm⟩; exact .inr ⟨z.1.trans q2.symm, z.2.trans q1.symm⟩)))
          fun z => q (G.same he0 he (by rcases hx with ⟨q1, q2⟩ | ⟨q1, q2⟩; exact .inr ⟨z.1.trans q2.symm, z.2.trans q1.symm⟩; exact .inl ⟨z.1.trans q1.symm, z.2.trans q2.symm⟩))
        rw [this]; omega
    omega
theorem Good.adj_dist (G : Good ns es σ) {x y : α} {l : Int} (h : Adj es x y l) : dist es σ x y = l := by
  have := G.walk_len (a := x) (b := y) (.cons h (.one y)) (by simp [G.adj_ne h]) rfl rfl
  omega
omit [DecidableEq α] in
/-- sides: the other node of the edge is spared just on the first one's side -/
theorem Good.side (G : Good ns es σ) {w : List α} {L : Int} (W : Walk es w L) (nd : w.Nodup) {e : Ed α} (he : e ∈ es) {b : α} (ha : w.head? = some e.1) (hb : w.getLast? = some b) : (e.2.1 ∉ w ↔ σ e b = 1) := by
  have o := G.one e he
  have hbm : b ∈ w := List.mem_of_getLast? hb
  constructor
  · intro hn
    have := G.walk_const W he (.inr rfl) hn b hbm e.1 (List.mem_of_head? ha)
    omega
  · intro h1 hm
    cases W with
    | one x =>
      have e1 : x = e.1 := Option.some.inj ha
      have := List.mem_singleton.mp hm
      exact G.one_ne he (e1.symm.trans this.symm)
    | @cons x y r l L hst W =>
      have e1 : x = e.1 := Option.some.inj ha
      have nd' := List.nodup_cons.mp nd
      rw [List.getLast?_cons_cons] at hb
      have hm' : e.2.1 ∈ y :: r := by
        rcases List.mem_cons.mp hm with q | q
        · exact absurd (q.trans e1) (G.one_ne he).symm
        · exact q
      have := G.walk_const W he (.inl e1) nd'.1 b (List.mem_of_getLast? hb) _ hm'
      omega
/-- no way of moving costs less than the flow -/
theorem Good.dual (G : Good ns es σ) {m : α → Int} (M : List (α × α × Int)) (hM : ∀ p ∈ M, p.1 ∈ ns ∧ p.2.1 ∈ ns ∧ 0 ≤ p.2.2)
    (hm : ∀ v ∈ ns, m v = sm M fun p => p.2.2 * ((if p.1 = v then 1 else 0) - (if p.2.1 = v then 1 else 0))) :
    sm es (fun e => e.2.2 * ab (fl ns σ m e)) ≤ sm M fun p => p.2.2 * dist es σ p.1 p.2.1 := by
  have e1 : sm M (fun p => p.2.2 * dist es σ p.1 p.2.1) = sm es fun e => e.2.2 * sm M fun p => p.2.2 * (if σ e p.1 = σ e p.2.1 then 0 else 1) := by
    have : sm M (fun p => p.2.2 * dist es σ p.1 p.2.1) = sm M fun p => sm es fun e => e.2.2 * (p.2.2 * (if σ e p.1 = σ e p.2.1 then 0 else 1)) := sm_congr fun p _ => by
      unfold dist
      rw [← sm_mul]
      exact sm_congr fun e _ => by rw [← Int.mul_assoc, ← Int.mul_assoc, Int.mul_comm p.2.2]
    rw [this, sm_comm]
    exact sm_congr fun e _ => sm_mul _ _ _
  rw [e1]
  refine sm_le fun e he => Int.mul_le_mul_of_nonneg_left ?_ (G.pos e he)
  have e2 : fl ns σ m e = sm M fun p => p.2.2 * (σ e p.1 - σ e p.2.1) := by
    unfold fl
    have : sm ns (fun x => σ e x * m x) = sm ns fun x => sm M fun p => (if x = p.1 then σ e x * p.2.2 else 0) - (if x = p.2.1 then σ e x * p.2.2 else 0) := sm_congr fun x hx => by
      rw [hm x hx, ← sm_mul]
      refine sm_congr fun p _ => ?_
      by_cases q1 : p.1 = x <;> by_cases q2 : p.2.1 = x
      · rw [if_pos q1, if_pos q2, if_pos q1.symm, if_pos q2.symm]; simp
      · rw [if_pos q1, if_neg q2, if_pos q1.symm, if_neg (Ne.symm q2)]; simp
      · rw [if_neg q1, if_pos q2, if_neg (Ne.symm q1), if_pos q2.symm]; simp [Int.mul_neg]
      · rw [if_neg q1, if_neg q2, if_neg (Ne.symm q1), if_neg (Ne.symm q2)]; simp
    rw [this, sm_comm]
    refine sm_congr fun p hp => ?_
    obtain ⟨h1, h2, _⟩ := hM p hp
    rw [sm_sub, sm_single G.nd h1 fun x => σ e x * p.2.2, sm_single G.nd h2 fun x => σ e x * p.2.2, Int.mul_sub, Int.mul_comm, Int.mul_comm (σ e p.2.1)]
  have up : ∀ p ∈ M, p.2.2 * (σ e p.1 - σ e p.2.1) ≤ p.2.2 * (if σ e p.1 = σ e p.2.1 then 0 else 1) ∧ - (p.2.2 * (σ e p.1 - σ e p.2.1)) ≤ p.2.2 * (if σ e p.1 = σ e p.2.1 then 0 else 1) := fun p hp => by
    obtain ⟨_, _, h3⟩ := hM p hp
    rcases G.bin e he p.1 with a | a <;> rcases G.bin e he p.2.1 with b | b <;> rw [a, b] <;> simp <;> omega
  have l1 := sm_le fun p hp => (up p hp).1
  have l2 := sm_le fun p hp => (up p hp).2
  have l3 : sm M (fun p => - (p.2.2 * (σ e p.1 - σ e p.2.1))) = - fl ns σ m e := by
    rw [e2]
    have := sm_sub M (fun _ => 0) fun p => p.2.2 * (σ e p.1 - σ e p.2.1)
    rw [sm_zero fun _ _ => rfl] at this
    rw [sm_congr fun p _ => show - (p.2.2 * (σ e p.1 - σ e p.2.1)) = 0 - p.2.2 * (σ e p.1 - σ e p.2.1) by omega, this]; omega
  rw [l3] at l2
  rw [← e2] at l1
  unfold ab; omega
end
end K59

/-! The flow on a tree, and the plan's turns. No program in sight. -/
namespace K59
section
variable {α : Type} [DecidableEq α] {ns : List α} {es : List (Ed α)} {σ : Ed α → α → Int}
/-- what is left of the flow f: by arcs, with numbers that are not negative -/
structure LeftOk (es : List (Ed α)) (f : Ed α → Int) (L : List ((α × α) × Int)) : Prop where
  src : ∀ p ∈ L, 0 ≤ p.2 ∧ ∃ e ∈ es, (e.1 = p.1.1 ∧ e.2.1 = p.1.2 ∧ p.2 = f e) ∨ (e.1 = p.1.2 ∧ e.2.1 = p.1.1 ∧ p.2 = - f e)
  fwd : ∀ e ∈ es, 0 < f e → ((e.1, e.2.1), f e) ∈ L
  bwd : ∀ e ∈ es, f e < 0 → ((e.2.1, e.1), - f e) ∈ L
/-- an arc of what is left -/
def PArc (L : List ((α × α) × Int)) (a b : α) : Prop := ∃ n, ((a, b), n) ∈ L ∧ 0 < n
/-- a way by R from s on -/
inductive Way (R : α → α → Prop) (s : α) : List α → α → Prop
  | one : Way R s [s] s
  | snoc {w : List α} {v b : α} : Way R s w v → R v b → Way R s (w ++ [b]) b
def steps : List α → List (α × α)
  | x :: y :: r => (x, y) :: steps (y :: r)
  | _ => []
def cnt (k : α × α) (l : List (α × α)) : Int := sm l fun q => if q = k then 1 else 0
variable {f : Ed α → Int} {L : List ((α × α) × Int)} {R : α → α → Prop} {s v : α} {w : List α}
omit [DecidableEq α] in
theorem steps_snoc : ∀ {w : List α} {v : α} (b : α), w.getLast? = some v → steps (w ++ [b]) = steps w ++ [(v, b)]
  | [], _, _, h => by simp at h
  | [x], v, b, h => by
    have e : x = v := Option.some.inj h
    subst e; rfl
  | x :: y :: r, v, b, h => by
    rw [List.getLast?_cons_cons] at h
    show (x, y) :: steps (y :: r ++ [b]) = ((x, y) :: steps (y :: r)) ++ [(v, b)]
    rw [steps_snoc b h]; rfl
omit [DecidableEq α] in
theorem steps_length : ∀ w : List α, (steps w).length = w.length - 1
  | [] => rfl
  | [_] => rfl
  | x :: y :: r => by
    show (steps (y :: r)).length + 1 = _
    rw [steps_length (y :: r)]; simp
omit [DecidableEq α] in
theorem steps_get : ∀ {w : List α} {i : Nat} {x y : α}, w[i]? = some x → w[i + 1]? = some y → (steps w)[i]? = some (x, y)
  | [], i, _, _, h, _ => by simp at h
  | [_], i, _, _, _, h => by simp at h
  | a :: b :: r, 0, x, y, h, h' => by
    have e : a = x := Option.some.inj h
    have e' : b = y := Option.some.inj h'
    rw [← e, ← e']; rfl
  | a :: b :: r, i + 1, x, y, h, h' => steps_get (w := b :: r) (i := i) h h'
omit [DecidableEq α] in
theorem Way.last (W : Way R s w v) : w.getLast? = some v := by
  cases W with
  | one => rfl
  | snoc _ _ => simp
omit [DecidableEq α] in
theorem Way.steps (W : Way R s w v) : ∀ q ∈ steps w, R q.1 q.2 := by
  induction W with
  | one => intro q hq; cases hq
  | snoc W h ih =>
    intro q hq
    rw [steps_snoc _ W.last] at hq
    rcases List.mem_append.mp hq with e | e
    · exact ih q e
    · rw [List.mem_singleton.mp e]; exact h
omit [DecidableEq α] in
theorem Way.steps_ne (W : Way R s w v) (h : s ≠ v) : ∃ q, q ∈ K59.steps w := by
  cases W with
  | one => exact absurd rfl h
  | snoc W h => exact ⟨_, by rw [steps_snoc _ W.last]; exact List.mem_append_right _ List.mem_cons_self⟩
theorem cnt_nonneg (k : α × α) (l : List (α × α)) : 0 ≤ cnt k l := sm_nonneg fun q _ => by split <;> omega
theorem cnt_zero {k : α × α} {l : List (α × α)} (h : k ∉ l) : cnt k l = 0 := sm_zero fun q hq => if_neg fun (e : q = k) => h (e ▸ hq)
theorem cnt_pos {k : α × α} {l : List (α × α)} (h : k ∈ l) : 0 < cnt k l := by
  have := sm_lt (l := l) (f := fun _ => 0) (g := fun q => if q = k then 1 else 0) (fun q _ => by split <;> omega) h (by rw [if_pos rfl]; omega)
  rwa [sm_zero fun _ _ => rfl] at this
theorem cnt_mem {k : α × α} {l : List (α × α)} (h : 0 < cnt k l) : k ∈ l := Classical.byContradiction fun hn => by
  rw [cnt_zero hn] at h; omega
/-- a step changes sides just at its own edge -/
theorem Good.step (G : Good ns es σ) {x y : α} {l : Int} (h : Adj es x y l) {e : Ed α} (he : e ∈ es) : σ e x - σ e y = (if (x, y) = (e.1, e.2.1) then 1 else 0) - (if (x, y) = (e.2.1, e.1) then 1 else 0) := by
  have o := G.one e he
  by_cases h1 : (x, y) = (e.1, e.2.1)
  · have h2 : ¬ (x, y) = (e.2.1, e.1) := fun q => G.one_ne he ((congrArg Prod.fst h1).symm.trans (congrArg Prod.fst q))
    have x1 : x = e.1 := congrArg Prod.fst h1
    have x2 : y = e.2.1 := congrArg Prod.snd h1
    rw [if_pos h1, if_neg h2, x1, x2, o.1, o.2]
  · by_cases h2 : (x, y) = (e.2.1, e.1)
    · have x1 : x = e.2.1 := congrArg Prod.fst h2
      have x2 : y = e.1 := congrArg Prod.snd h2
      rw [if_neg h1, if_pos h2, x1, x2, o.1, o.2]
    · rw [if_neg h1, if_neg h2, G.step_other h he (fun q => h1 (by rw [q.1, q.2])) fun q => h2 (by rw [q.1, q.2])]; omega
theorem Way.tele (G : Good ns es σ) (hR : ∀ a b, R a b → ∃ l, Adj es a b l) (W : Way R s w v) {e : Ed α} (he : e ∈ es) : σ e s - σ e v = cnt (e.1, e.2.1) (K59.steps w) - cnt (e.2.1, e.1) (K59.steps w) := by
  induction W with
  | one => simp [K59.steps, cnt, sm_nil]
  | @snoc w v b W h ih =>
    obtain ⟨l, hl⟩ := hR _ _ h
    have := G.step hl he
    rw [steps_snoc _ W.last]
    unfold cnt at *
    rw [sm_append, sm_append, sm_cons, sm_cons, sm_nil, sm_nil]
    omega
omit [DecidableEq α] in
theorem PArc.edge (h : LeftOk es f L) {a b : α} (p : PArc L a b) : ∃ e ∈ es, (e.1 = a ∧ e.2.1 = b ∧ 0 < f e) ∨ (e.1 = b ∧ e.2.1 = a ∧ f e < 0) := by
  obtain ⟨n, hn, h0⟩ := p
  obtain ⟨_, e, he, q⟩ := h.src _ hn
  refine ⟨e, he, ?_⟩
  rcases q with ⟨a1, a2, a3⟩ | ⟨a1, a2, a3⟩
  · exact .inl ⟨a1, a2, by have : n = f e := a3; omega⟩
  · exact .inr ⟨a1, a2, by have : n = - f e := a3; omega⟩
omit [DecidableEq α] in
theorem PArc.adj (h : LeftOk es f L) {a b : α} (p : PArc L a b) : ∃ l, Adj es a b l := by
  obtain ⟨e, he, q⟩ := p.edge h
  rcases q with ⟨a1, a2, _⟩ | ⟨a1, a2, _⟩
  · exact ⟨e.2.2, .inl (by rw [← a1, ← a2]; exact he)⟩
  · exact ⟨e.2.2, .inr (by rw [← a1, ← a2]; exact he)⟩
variable {m : α → Int}
/-- the way never ends at a node that lacks nothing -/
theorem Good.next (G : Good ns es σ) (h0 : sm ns m = 0) (ok : LeftOk es (fl ns σ m) L) {v : α} (hv : v ∈ ns) (hm : 0 ≤ m v) (hin : 0 < m v ∨ ∃ u, PArc L u v) : ∃ b, PArc L v b := by
  refine Classical.byContradiction fun hn => ?_
  have hn' : ∀ b n, ((v, b), n) ∈ L → ¬ 0 < n := fun b n h q => hn ⟨b, n, h, q⟩
  have nd := G.node h0 hv
  have tm : ∀ e ∈ es, ((if e.1 = v then 1 else 0) - (if e.2.1 = v then 1 else 0)) * fl ns σ m e ≤ 0 := fun e he => by
    by_cases q1 : e.1 = v
    · have q2 : ¬ e.2.1 = v := fun q => G.one_ne he (q1.trans q.symm)
      rw [if_pos q1, if_neg q2]
      have : ¬ 0 < fl ns σ m e := fun h => hn' _ _ (by have := ok.fwd e he h; rw [q1] at this; exact this) h
      omega
    · by_cases q2 : e.2.1 = v
      · rw [if_neg q1, if_pos q2]
        have : ¬ fl ns σ m e < 0 := fun h => hn' _ _ (by have := ok.bwd e he h; rw [q2] at this; exact this) (by omega)
        omega
      · rw [if_neg q1, if_neg q2]; simp
  rcases hin with h | ⟨u, hu⟩
  · have := sm_le tm
    rw [sm_zero (f := fun _ => 0) fun _ _ => rfl] at this
    omega
  · obtain ⟨e, he, q⟩ := hu.edge ok
    have : sm es (fun e => ((if e.1 = v then 1 else 0) - (if e.2.1 = v then 1 else 0)) * fl ns σ m e) < sm es fun _ => 0 := sm_lt tm he (by
      rcases q with ⟨a1, a2, a3⟩ | ⟨a1, a2, a3⟩
      · have q1 : ¬ e.1 = v := fun q => G.one_ne he (q.trans a2.symm)
        rw [if_neg q1, if_pos a2]; omega
      · have q2 : ¬ e.2.1 = v := fun q => G.one_ne he (a1.trans q.symm)
        rw [if_pos a1, if_neg q2]; omega)
    rw [sm_zero (f := fun _ => 0) fun _ _ => rfl] at this
    omega
omit [DecidableEq α] in
/-- while some flow is left, some node has too much -/
theorem Good.some_more (h0 : sm ns m = 0) (ok : LeftOk es (fl ns σ m) L) {p : (α × α) × Int} (hp : p ∈ L) (h : 0 < p.2) : ∃ v ∈ ns, 0 < m v := by
  obtain ⟨_, e, _, q⟩ := ok.src p hp
  have hne : fl ns σ m e ≠ 0 := by rcases q with ⟨_, _, q⟩ | ⟨_, _, q⟩ <;> omega
  obtain ⟨x, hx, hx0⟩ : ∃ x ∈ ns, m x ≠ 0 := Classical.byContradiction fun hn => hne (sm_zero fun x hx => by
    have : m x = 0 := Classical.byContradiction fun q => hn ⟨x, hx, q⟩
    rw [this]; omega)
  exact sm_pos_of h0 hx hx0
/-- in the end every node has what it is to have -/
theorem Good.all_done (G : Good ns es σ) (h0 : sm ns m = 0) (ok : LeftOk es (fl ns σ m) L) (hz : ∀ p ∈ L, ¬ 0 < p.2) : (∀ v ∈ ns, m v = 0) ∧ ∀ e ∈ es, fl ns σ m e = 0 := by
  have z : ∀ e ∈ es, fl ns σ m e = 0 := fun e he => by
    have h1 : ¬ 0 < fl ns σ m e := fun h => hz _ (ok.fwd e he h) h
    have h2 : ¬ fl ns σ m e < 0 := fun h => hz _ (ok.bwd e he h) (by show 0 < - _; omega)
    omega
  exact ⟨fun v hv => by rw [G.node h0 hv]; exact sm_zero fun e he => by rw [z e he]; omega, z⟩
/-- what falls along a way -/
def phi (es : List (Ed α)) (σ : Ed α → α → Int) (f : Ed α → Int) (v : α) : Int := sm es fun e => if 0 < f e then σ e v else if f e < 0 then 1 - σ e v else 0
omit [DecidableEq α] in
theorem Good.phi_nonneg (G : Good ns es σ) (f : Ed α → Int) (v : α) : 0 ≤ phi es σ f v := sm_nonneg fun e he => by
  rcases G.bin e he v with q | q <;> rw [q] <;> split <;> (try split) <;> omega
theorem Good.phi_lt (G : Good ns es σ) (ok : LeftOk es f L) {a b : α} (p : PArc L a b) : phi es σ f b < phi es σ f a := by
  obtain ⟨l, hl⟩ := p.adj ok
  obtain ⟨e0, he0, q⟩ := p.edge ok
  have o := G.one e0 he0
  refine sm_lt (fun e he => ?_) he0 ?_
  · by_cases h1 : e = e0
    · subst h1
      rcases q with ⟨a1, a2, a3⟩ | ⟨a1, a2, a3⟩
      · rw [if_pos a3, if_pos a3, ← a1, ← a2]; omega
      · have a4 : ¬ 0 < f e := by omega
        rw [if_neg a4, if_neg a4, if_pos a3, if_pos a3, ← a1, ← a2]; omega
    · have : σ e a = σ e b := G.step_other hl he (fun z => h1 (G.same he0 he (by rcases q with ⟨a1, a2, _⟩ | ⟨a1, a2, _⟩; exact .inl ⟨z.1.trans a1.symm, z.2.trans a2.symm⟩; exact .inr ⟨z.1.trans a2.symm, z.2.trans a1.symm⟩)))
        fun z => h1 (G.same he0 he (by rcases q with ⟨a1, a2, _⟩ | ⟨a1, a2, _⟩; exact .inr ⟨z.1.trans a2.symm, z.2.trans a1.symm⟩; exact .inl ⟨z.1.trans a1.symm, z.2.trans a2.symm⟩))
      rw [this]; exact Int.le_refl _
  · rcases q with ⟨a1, a2, a3⟩ | ⟨a1, a2, a3⟩
    · rw [if_pos a3, if_pos a3, ← a1, ← a2]; omega
    · have a4 : ¬ 0 < f e0 := by omega
      rw [if_neg a4, if_neg a4, if_pos a3, if_pos a3, ← a1, ← a2]; omega
/-- no arc against the flow -/
theorem Good.no_back (G : Good ns es σ) (ok : LeftOk es f L) {e : Ed α} (he : e ∈ es) : (f e ≤ 0 → ¬ PArc L e.1 e.2.1) ∧ (0 ≤ f e → ¬ PArc L e.2.1 e.1) := by
  constructor
  · intro h p
    obtain ⟨e', he', q⟩ := p.edge ok
    rcases q with ⟨a1, a2, a3⟩ | ⟨a1, a2, a3⟩
    · rw [G.same he he' (.inl ⟨a1, a2⟩)] at a3; omega
    · have e1 := G.same he he' (.inr ⟨a1, a2⟩)
      rw [e1] at a1
      exact G.one_ne he a1
  · intro h p
    obtain ⟨e', he', q⟩ := p.edge ok
    rcases q with ⟨a1, a2, a3⟩ | ⟨a1, a2, a3⟩
    · have e1 := G.same he he' (.inr ⟨a1, a2⟩)
      rw [e1] at a1
      exact G.one_ne he a1
    · rw [G.same he he' (.inl ⟨a1, a2⟩)] at a3; omega
/-- what a move of k from s to t takes away -/
def gone (s t : α) (k : Int) (x : α) : Int := (if x = s then k else 0) - (if x = t then k else 0)
def less (L : List ((α × α) × Int)) (k : Int) (st : List (α × α)) : List ((α × α) × Int) := L.map fun p => (p.1, p.2 - k * cnt p.1 st)
theorem Good.move (G : Good ns es σ) (h0 : sm ns m = 0) (ok : LeftOk es (fl ns σ m) L) {s t : α} {w : List α} {k : Int} (W : Way (PArc L) s w t) (hs : s ∈ ns) (ht : t ∈ ns) (hst : s ≠ t) (hk : 0 < k)
    (hle : ∀ q ∈ steps w, ∀ n, (q, n) ∈ L → k ≤ n) :
    sm ns (fun x => m x - gone s t k x) = 0 ∧ LeftOk es (fl ns σ fun x => m x - gone s t k x) (less L k (steps w)) ∧
      sm es (fun e => e.2.2 * ab (fl ns σ m e)) = sm es (fun e => e.2.2 * ab (fl ns σ (fun x => m x - gone s t k x) e)) + k * dist es σ s t ∧
      sm es (fun e => ab (fl ns σ (fun x => m x - gone s t k x) e)) < sm es (fun e => ab (fl ns σ m e)) := by
  have fe : ∀ e, fl ns σ (fun x => m x - gone s t k x) e = fl ns σ m e - (σ e s - σ e t) * k := fun e => by
    rw [fl_sub]
    unfold gone
    rw [fl_sub, fl_single G.nd hs, fl_single G.nd ht, Int.sub_mul]
  -- the three cases of an edge
  have cs : ∀ e ∈ es, ∃ c : Int, (c = 0 ∨ c = 1) ∧ (if σ e s = σ e t then 0 else 1) = c ∧
      ((0 < fl ns σ m e ∧ σ e s - σ e t = c ∧ c * k ≤ fl ns σ m e ∧ cnt (e.1, e.2.1) (steps w) = c ∧ cnt (e.2.1, e.1) (steps w) = 0) ∨
        (fl ns σ m e < 0 ∧ σ e s - σ e t = - c ∧ c * k ≤ - fl ns σ m e ∧ cnt (e.2.1, e.1) (steps w) = c ∧ cnt (e.1, e.2.1) (steps w) = 0) ∨
        (fl ns σ m e = 0 ∧ c = 0 ∧ σ e s - σ e t = 0 ∧ cnt (e.1, e.2.1) (steps w) = 0 ∧ cnt (e.2.1, e.1) (steps w) = 0)) := fun e he => by
    have tl := W.tele G (fun a b h => h.adj ok) he
    have nb := G.no_back ok he
    have z1 : ¬ PArc L e.1 e.2.1 → cnt (e.1, e.2.1) (steps w) = 0 := fun h => cnt_zero fun q => h (W.steps _ q)
    have z2 : ¬ PArc L e.2.1 e.1 → cnt (e.2.1, e.1) (steps w) = 0 := fun h => cnt_zero fun q => h (W.steps _ q)
    have n1 := cnt_nonneg (e.1, e.2.1) (steps w)
    have n2 := cnt_nonneg (e.2.1, e.1) (steps w)
    have b1 := G.bin e he s
    have b2 := G.bin e he t
    by_cases p : 0 < fl ns σ m e
    · have z := z2 (nb.2 (by omega))
      refine ⟨σ e s - σ e t, by omega, ?_, .inl ⟨p, rfl, ?_, by omega, z⟩⟩
      · split <;> omega
      · by_cases c : 0 < cnt (e.1, e.2.1) (steps w)
        · have hh := hle _ (cnt_mem c) _ (ok.fwd e he p)
          have : σ e s - σ e t = 1 := by omega
          rw [this]; omega
        · have : σ e s - σ e t = 0 := by omega
          rw [this]; omega
    · by_cases p2 : fl ns σ m e < 0
      · have z := z1 (nb.1 (by omega))
        refine ⟨- (σ e s - σ e t), by omega, ?_, .inr (.inl ⟨p2, by omega, ?_, by omega, z⟩)⟩
        · split <;> omega
        · by_cases c : 0 < cnt (e.2.1, e.1) (steps w)
          · have hh := hle _ (cnt_mem c) _ (ok.bwd e he p2)
            have : - (σ e s - σ e t) = 1 := by omega
            rw [this]; omega
          · have : - (σ e s - σ e t) = 0 := by omega
            rw [this]; omega
      · have za := z1 (nb.1 (by omega))
        have zb := z2 (nb.2 (by omega))
        refine ⟨0, .inl rfl, ?_, .inr (.inr ⟨by omega, rfl, by omega, za, zb⟩)⟩
        split <;> omega
  have abs : ∀ e ∈ es, ab (fl ns σ m e) = ab (fl ns σ (fun x => m x - gone s t k x) e) + k * (if σ e s = σ e t then 0 else 1) := fun e he => by
    obtain ⟨c, hc, h1, h2⟩ := cs e he
    rw [h1, fe]
    unfold ab
    rcases hc with rfl | rfl <;> rcases h2 with ⟨a, b, d, _⟩ | ⟨a, b, d, _⟩ | ⟨a, b, d, _⟩ <;> (try rw [b]) <;> (try rw [d]) <;> omega
  refine ⟨?_, ⟨fun p hp => ?_, fun e he h => ?_, fun e he h => ?_⟩, ?_, ?_⟩
  · rw [sm_sub, h0]
    unfold gone
    rw [sm_sub, sm_single G.nd hs fun _ => k, sm_single G.nd ht fun _ => k]; omega
  · obtain ⟨p0, hp0, rfl⟩ := List.mem_map.mp hp
    obtain ⟨hn, e, he, q⟩ := ok.src p0 hp0
    obtain ⟨⟨a, b⟩, n⟩ := p0
    obtain ⟨c, hc, h1, h2⟩ := cs e he
    have f1 := fe e
    rcases q with ⟨q1, q2, q3⟩ | ⟨q1, q2, q3⟩
    · simp only at q1 q2 q3 hn
      subst q1 q2 q3
      refine ⟨?_, e, he, .inl ⟨rfl, rfl, ?_⟩⟩
      · show 0 ≤ fl ns σ m e - k * cnt (e.1, e.2.1) (steps w)
        rcases h2 with ⟨_, _, d, g, _⟩ | ⟨d, _⟩ | ⟨d, _, _, g, _⟩
        · rw [g, Int.mul_comm]; omega
        · omega
        · rw [g]; omega
      · show fl ns σ m e - k * cnt (e.1, e.2.1) (steps w) = _
        rcases h2 with ⟨_, b, d, g, _⟩ | ⟨d, _⟩ | ⟨d, _, b, g, _⟩
        · rw [f1, g, b, Int.mul_comm]
        · omega
        · rw [f1, g, b]; omega
    · simp only at q1 q2 q3 hn
      subst q1 q2 q3
      refine ⟨?_, e, he, .inr ⟨rfl, rfl, ?_⟩⟩
      · show 0 ≤ - fl ns σ m e - k * cnt (e.2.1, e.1) (steps w)
        rcases h2 with ⟨d, _⟩ | ⟨_, _, d, g, _⟩ | ⟨d, _, _, _, g⟩
        · omega
        · rw [g, Int.mul_comm]; omega
        · rw [g]; omega
      · show - fl ns σ m e - k * cnt (e.2.1, e.1) (steps w) = _
        rcases h2 with ⟨d, _⟩ | ⟨_, b, d, g, _⟩ | ⟨d, _, b, _, g⟩
        · omega
        · rw [f1, g, b, Int.neg_mul, Int.mul_comm k]; omega
        · rw [f1, g, b]; omega
  · obtain ⟨c, hc, h1, h2⟩ := cs e he
    have f1 := fe e
    rcases h2 with ⟨a, b, d, g, _⟩ | ⟨a, b, d, g, _⟩ | ⟨a, _, b, g, _⟩
    · refine List.mem_map.mpr ⟨_, ok.fwd e he a, ?_⟩
      show ((e.1, e.2.1), fl ns σ m e - k * cnt (e.1, e.2.1) (steps w)) = _
      rw [f1, g, b, Int.mul_comm]
    · rw [f1, b] at h; rcases hc with rfl | rfl <;> omega
    · rw [f1, a, b] at h; omega
  · obtain ⟨c, hc, h1, h2⟩ := cs e he
    have f1 := fe e
    rcases h2 with ⟨a, b, d, g, _⟩ | ⟨a, b, d, g, _⟩ | ⟨a, _, b, g, _⟩
    · rw [f1, b] at h; omega
    · refine List.mem_map.mpr ⟨_, ok.bwd e he a, ?_⟩
      show ((e.2.1, e.1), - fl ns σ m e - k * cnt (e.2.1, e.1) (steps w)) = _
      rw [f1, g, b, Int.neg_mul, Int.mul_comm k]; congr 1; omega
    · rw [f1, a, b] at h; omega
  · unfold dist
    rw [← sm_mul, ← sm_add]
    refine sm_congr fun e he => ?_
    rw [abs e he, Int.mul_add, ← Int.mul_assoc, ← Int.mul_assoc, Int.mul_comm k]
  · obtain ⟨q, hq⟩ := W.steps_ne hst
    obtain ⟨l, hl⟩ := (W.steps q hq).adj ok
    obtain ⟨e0, he0, h01⟩ := (W.steps q hq).edge ok
    refine sm_lt (fun e he => ?_) he0 ?_
    · have := abs e he
      split at this <;> omega
    · have h1 := abs e0 he0
      obtain ⟨c, hc, h2, h3⟩ := cs e0 he0
      have cp : 0 < cnt q (steps w) := cnt_pos hq
      rcases h01 with ⟨a1, a2, a3⟩ | ⟨a1, a2, a3⟩
      · have : q = (e0.1, e0.2.1) := by rw [a1, a2]
        rw [this] at cp
        rw [h2] at h1
        rcases hc with rfl | rfl
        · omega
        · omega
      · have : q = (e0.2.1, e0.1) := by rw [a1, a2]
        rw [this] at cp
        rw [h2] at h1
        rcases hc with rfl | rfl
        · omega
        · omega
end
end K59

/-! Trees made leaf by leaf; loads; prices; the flow's list. No program in sight. -/
namespace K59
section
variable {α : Type} [DecidableEq α] {ns ns' : List α} {es es' : List (Ed α)} {σ : Ed α → α → Int}
omit [DecidableEq α] in
theorem Good.single (v : α) (σ : Ed α → α → Int) : Good [v] [] σ where
  nd := by simp
  ne := List.nodup_nil
  mem := fun _ h => nomatch h
  pos := fun _ h => nomatch h
  one := fun _ h => nomatch h
  bin := fun _ h => nomatch h
  cut := fun _ h => nomatch h
  conn := fun S ⟨x, hx, hs⟩ _ y hy => by
    rw [List.mem_singleton.mp hy, ← List.mem_singleton.mp hx]; exact hs
omit [DecidableEq α] in
theorem Good.perm (G : Good ns es σ) (pn : ns.Perm ns') (pe : es.Perm es') : Good ns' es' σ where
  nd := pn.nodup_iff.mp G.nd
  ne := pe.nodup_iff.mp G.ne
  mem := fun e h => let ⟨a, b⟩ := G.mem e (pe.mem_iff.mpr h); ⟨pn.mem_iff.mp a, pn.mem_iff.mp b⟩
  pos := fun e h => G.pos e (pe.mem_iff.mpr h)
  one := fun e h => G.one e (pe.mem_iff.mpr h)
  bin := fun e h => G.bin e (pe.mem_iff.mpr h)
  cut := fun e h e' h' => G.cut e (pe.mem_iff.mpr h) e' (pe.mem_iff.mpr h')
  conn := fun S ⟨x, hx, hs⟩ hc y hy => G.conn S ⟨x, pn.mem_iff.mpr hx, hs⟩ (fun e he => hc e (pe.mem_iff.mp he)) y (pn.mem_iff.mpr hy)
/-- a leaf j at the node p -/
theorem Good.leaf (G : Good ns es σ) {j p a b : α} {l : Int} (hj : j ∉ ns) (hp : p ∈ ns) (hl : 0 ≤ l) (hab : (a = j ∧ b = p) ∨ (a = p ∧ b = j)) : ∃ σ', Good (ns ++ [j]) (es ++ [(a, b, l)]) σ' := by
  have hne : j ≠ p := fun q => hj (q ▸ hp)
  have nin : ∀ e ∈ es, e.1 ≠ j ∧ e.2.1 ≠ j := fun e he => ⟨fun q => hj (q ▸ (G.mem e he).1), fun q => hj (q ▸ (G.mem e he).2)⟩
  have new : ∀ e ∈ es, e ≠ (a, b, l) := fun e he q => by
    have := nin e he
    rw [q] at this
    rcases hab with ⟨x, y⟩ | ⟨x, y⟩
    · exact this.1 x
    · exact this.2 y
  refine ⟨fun e x => if e = (a, b, l) then (if a = j then (if x = j then 1 else 0) else (if x = j then 0 else 1)) else (if x = j then σ e p else σ e x), ?_⟩
  refine ⟨?_, ?_, fun e he => ?_, fun e he => ?_, fun e he => ?_, fun e he x => ?_, fun e he e' he' hne' => ?_, fun S hS hc x hx => ?_⟩
  · exact List.nodup_append.mpr ⟨G.nd, by simp, fun x hx y hy q => hj (by rw [List.mem_singleton.mp hy] at q; exact q ▸ hx)⟩
  · exact List.nodup_append.mpr ⟨G.ne, by simp, fun x hx y hy q => new x hx (by rw [List.mem_singleton.mp hy] at q; exact q)⟩
  · rcases List.mem_append.mp he with h | h
    · exact ⟨List.mem_append_left _ (G.mem e h).1, List.mem_append_left _ (G.mem e h).2⟩
    · rw [List.mem_singleton.mp h]
      rcases hab with ⟨x, y⟩ | ⟨x, y⟩
      · subst x y; exact ⟨List.mem_append_right _ List.mem_cons_self, List.mem_append_left _ hp⟩
      · subst x y; exact ⟨List.mem_append_left _ hp, List.mem_append_right _ List.mem_cons_self⟩
  · rcases List.mem_append.mp he with h | h
    · exact G.pos e h
    · rw [List.mem_singleton.mp h]; exact hl
  · rcases List.mem_append.mp he with h | h
    · simp only [if_neg (new e h), if_neg (nin e h).1, if_neg (nin e h).2]
      exact G.one e h
    · rw [List.mem_singleton.mp h]
      rcases hab with ⟨x, y⟩ | ⟨x, y⟩
      · subst x y; simp [Ne.symm hne]
      · subst x y; simp [Ne.symm hne]
  · rcases List.mem_append.mp he with h | h
    · simp only [if_neg (new e h)]
      split
      · exact G.bin e h p
      · exact G.bin e h x
    · rw [List.mem_singleton.mp h]
      simp only [if_true]
      split <;> split <;> omega
  · rcases List.mem_append.mp he with h | h
    · simp only [if_neg (new e h)]
      rcases List.mem_append.mp he' with h' | h'
      · simp only [if_neg (nin e' h').1, if_neg (nin e' h').2]
        exact G.cut e h e' h' hne'
      · rw [List.mem_singleton.mp h']
        rcases hab with ⟨x, y⟩ | ⟨x, y⟩
        · subst x y; simp [Ne.symm hne]
        · subst x y; simp [Ne.symm hne]
    · rw [List.mem_singleton.mp h]
      rcases List.mem_append.mp he' with h' | h'
      · simp only [if_true, if_neg (nin e' h').1, if_neg (nin e' h').2]
      · exact absurd ((List.mem_singleton.mp h).trans (List.mem_singleton.mp h').symm) hne'
  · have hcp : S p ↔ S j := by
      have := hc (a, b, l) (List.mem_append_right _ List.mem_cons_self)
      rcases hab with ⟨x, y⟩ | ⟨x, y⟩
      · subst x y; exact this.symm
      · subst x y; exact this
    have old : ∀ y ∈ ns, S y := by
      refine G.conn S ?_ fun e he => hc e (List.mem_append_left _ he)
      obtain ⟨y, hy, hs⟩ := hS
      rcases List.mem_append.mp hy with h | h
      · exact ⟨y, h, hs⟩
      · rw [List.mem_singleton.mp h] at hs
        exact ⟨p, hp, hcp.mpr hs⟩
    rcases List.mem_append.mp hx with h | h
    · exact old x h
    · rw [List.mem_singleton.mp h]; exact hcp.mp (old p hp)

/-! ### loads -/
/-- what a load has at v -/
def val (F : List (α × Int)) (v : α) : Int := sm F fun p => if p.1 = v then p.2 else 0
theorem sm_val (nd : ns.Nodup) (p : α → Int) : ∀ {F : List (α × Int)}, (∀ q ∈ F, q.1 ∈ ns) → sm ns (fun v => p v * val F v) = sm F fun q => p q.1 * q.2
  | [], _ => sm_zero fun v _ => by simp [val, sm_nil]
  | q :: F, h => by
    have ih := sm_val nd p (F := F) fun r hr => h r (List.mem_cons_of_mem _ hr)
    rw [sm_cons, ← ih, ← sm_single nd (h q List.mem_cons_self) (fun v => p v * q.2), ← sm_add]
    refine sm_congr fun v _ => ?_
    show p v * sm (q :: F) _ = _
    rw [sm_cons, Int.mul_add]
    congr 1
    by_cases e : v = q.1
    · rw [if_pos e, if_pos e.symm]
    · rw [if_neg e, if_neg (Ne.symm e)]; omega
theorem sm_val1 (nd : ns.Nodup) {F : List (α × Int)} (h : ∀ q ∈ F, q.1 ∈ ns) : sm ns (val F) = sm F fun q => q.2 := by
  have := sm_val nd (fun _ => 1) h
  rw [sm_congr fun v _ => show val F v = 1 * val F v by omega, this]
  exact sm_congr fun q _ => by omega
theorem val_cons (q : α × Int) (F : List (α × Int)) (v : α) : val (q :: F) v = (if q.1 = v then q.2 else 0) + val F v := sm_cons _ _ _
theorem val_append (F F' : List (α × Int)) (v : α) : val (F ++ F') v = val F v + val F' v := sm_append _ _ _
theorem val_out {F : List (α × Int)} {v : α} (h : ∀ q ∈ F, q.1 ≠ v) : val F v = 0 := sm_zero fun q hq => if_neg (h q hq)
theorem val_mem : ∀ {F : List (α × Int)} {v : α} {n : Int}, (F.map (·.1)).Nodup → (v, n) ∈ F → val F v = n
  | q :: F, v, n, nd, h => by
    have nd' := List.nodup_cons.mp (show (q.1 :: F.map (·.1)).Nodup from nd)
    rw [val_cons]
    rcases List.mem_cons.mp h with e | e
    · subst e
      rw [if_pos rfl, val_out fun r hr z => nd'.1 (List.mem_map.mpr ⟨r, hr, z⟩)]; simp
    · rw [if_neg fun z => nd'.1 (List.mem_map.mpr ⟨(v, n), e, z.symm⟩), val_mem nd'.2 e]; omega
theorem val_ne {F : List (α × Int)} {v : α} (h : val F v ≠ 0) : ∃ q ∈ F, q.1 = v := Classical.byContradiction fun hn => h (val_out fun q hq z => hn ⟨q, hq, z⟩)

/-! ### prices -/
def sg (x : Int) : Int := if 0 < x then 1 else if x < 0 then -1 else 0
theorem sg_mul (x : Int) : sg x * x = ab x := by unfold sg ab; split <;> (try split) <;> omega
theorem Good.gain (G : Good ns es σ) {m : α → Int} (h0 : sm ns m = 0) {p : α → Int} (hp : ∀ e ∈ es, p e.1 - p e.2.1 = e.2.2 * sg (fl ns σ m e)) : sm ns (fun x => p x * m x) = sm es fun e => e.2.2 * ab (fl ns σ m e) := by
  rw [G.abel h0 p]
  exact sm_congr fun e he => by rw [hp e he, Int.mul_assoc, sg_mul]
/-- the prices from any start on -/
def priceOf (es : List (Ed α)) (σ : Ed α → α → Int) (f : Ed α → Int) (x : α) : Int := sm es fun e => e.2.2 * sg (f e) * σ e x
theorem Good.pot_edge (G : Good ns es σ) (f : Ed α → Int) {e : Ed α} (he : e ∈ es) : priceOf es σ f e.1 - priceOf es σ f e.2.1 = e.2.2 * sg (f e) := G.pot (fun e => e.2.2 * sg (f e)) he

/-! ### the flow's list -/
def arcOf (f : Ed α → Int) (e : Ed α) : Option (α × α × Int) := if 0 < f e then some (e.1, e.2.1, f e) else if f e < 0 then some (e.2.1, e.1, - f e) else none
omit [DecidableEq α] in
theorem arcOf_some {f : Ed α → Int} {e : Ed α} {x : α × α × Int} (h : arcOf f e = some x) : (0 < f e ∧ x = (e.1, e.2.1, f e)) ∨ (f e < 0 ∧ x = (e.2.1, e.1, - f e)) := by
  unfold arcOf at h
  split at h
  · exact .inl ⟨by assumption, (Option.some.inj h).symm⟩
  · split at h
    · exact .inr ⟨by assumption, (Option.some.inj h).symm⟩
    · cases h
def keyed (p : α × α × Int) : (α × α) × Int := ((p.1, p.2.1), p.2.2)
omit [DecidableEq α] in
theorem Good.left0 (G : Good ns es σ) {f : Ed α → Int} {A : List (α × α × Int)} (h : A.Perm (es.filterMap (arcOf f))) : LeftOk es f (A.map keyed) ∧ ((A.map keyed).map (·.1)).Nodup := by
  refine ⟨⟨fun p hp => ?_, fun e he hf => ?_, fun e he hf => ?_⟩, ?_⟩
  · obtain ⟨x, hx, rfl⟩ := List.mem_map.mp hp
    obtain ⟨e, he, hs⟩ := List.mem_filterMap.mp (h.mem_iff.mp hx)
    rcases arcOf_some hs with ⟨q, rfl⟩ | ⟨q, rfl⟩
    · exact ⟨by show 0 ≤ f e; omega, e, he, .inl ⟨rfl, rfl, rfl⟩⟩
    · exact ⟨by show 0 ≤ - f e; omega, e, he, .inr ⟨rfl, rfl, rfl⟩⟩
  · exact List.mem_map.mpr ⟨(e.1, e.2.1, f e), h.mem_iff.mpr (List.mem_filterMap.mpr ⟨e, he, if_pos hf⟩), rfl⟩
  · have : ¬ 0 < f e := by omega
    exact List.mem_map.mpr ⟨(e.2.1, e.1, - f e), h.mem_iff.mpr (List.mem_filterMap.mpr ⟨e, he, by unfold arcOf; rw [if_neg this, if_pos hf]⟩), rfl⟩
  · rw [List.map_map]
    refine (h.map _).nodup_iff.mpr ?_
    have gen : ∀ l : List (Ed α), l.Nodup → (∀ e ∈ l, e ∈ es) → ((l.filterMap (arcOf f)).map ((fun p : (α × α) × Int => p.1) ∘ keyed)).Nodup := by
      intro l
      induction l with
      | nil => intro _ _; exact List.nodup_nil
      | cons e l ih =>
        intro nd hl
        have nd' := List.nodup_cons.mp nd
        have ih' := ih nd'.2 fun x hx => hl x (List.mem_cons_of_mem _ hx)
        rw [List.filterMap_cons]
        cases hs : arcOf f e with
        | none => exact ih'
        | some x =>
          refine List.nodup_cons.mpr ⟨fun hm => ?_, ih'⟩
          obtain ⟨y, hy, hxy⟩ := List.mem_map.mp hm
          obtain ⟨e', he', hs'⟩ := List.mem_filterMap.mp hy
          have hk : (y.1, y.2.1) = (x.1, x.2.1) := hxy
          have k1 : y.1 = x.1 := (Prod.mk.inj hk).1
          have k2 : y.2.1 = x.2.1 := (Prod.mk.inj hk).2
          have : e' = e := by
            refine G.same (hl e List.mem_cons_self) (hl e' (List.mem_cons_of_mem _ he')) ?_
            rcases arcOf_some hs with ⟨_, rfl⟩ | ⟨_, rfl⟩ <;> rcases arcOf_some hs' with ⟨_, rfl⟩ | ⟨_, rfl⟩
            · exact .inl ⟨k1, k2⟩
            · exact .inr ⟨k2, k1⟩
            · exact .inr ⟨k1, k2⟩
            · exact .inl ⟨k2, k1⟩
          exact nd'.1 (this ▸ he')
    exact gen es G.ne fun _ h => h
theorem Good.cost (G : Good ns es σ) {f : Ed α → Int} {A : List (α × α × Int)} (h : A.Perm (es.filterMap (arcOf f))) : sm A (fun p => p.2.2 * dist es σ p.1 p.2.1) = sm es fun e => e.2.2 * ab (f e) := by
  rw [sm_perm h, sm_filterMap]
  refine sm_congr fun e he => ?_
  have a : Adj es e.1 e.2.1 e.2.2 := .inl he
  unfold arcOf
  by_cases q : 0 < f e
  · rw [if_pos q]
    show f e * dist es σ e.1 e.2.1 = _
    rw [G.adj_dist a, Int.mul_comm]; congr 1; unfold ab; omega
  · by_cases q2 : f e < 0
    · rw [if_neg q, if_pos q2]
      show - f e * dist es σ e.2.1 e.1 = _
      rw [G.adj_dist a.symm, Int.mul_comm]; congr 1; unfold ab; omega
    · rw [if_neg q, if_neg q2]
      have : f e = 0 := by omega
      rw [this]; simp [ab]
omit [DecidableEq α] in
theorem adj_snoc {A : List (Ed α)} {e : Ed α} {x y : α} {l : Int} : Adj (A ++ [e]) x y l ↔ Adj A x y l ∨ (x, y, l) = e ∨ (y, x, l) = e := by
  unfold Adj
  rw [List.mem_append, List.mem_append, List.mem_singleton, List.mem_singleton]
  exact ⟨fun h => by rcases h with (h | h) | h | h <;> simp [h], fun h => by rcases h with (h | h) | h | h <;> simp [h]⟩
omit [DecidableEq α] in
theorem walk_snoc {w : List α} {L : Int} (W : Walk es w L) : ∀ {k y : α} {l : Int}, w.getLast? = some k → Adj es k y l → Walk es (w ++ [y]) (L + l) := by
  induction W with
  | one x =>
    intro k y l hk h
    have e : x = k := Option.some.inj hk
    subst e
    have := Walk.cons h (.one y)
    rw [Int.add_zero] at this
    rw [Int.zero_add]
    exact this
  | @cons x z r l' L h' _ ih =>
    intro k y l hk h
    rw [List.getLast?_cons_cons] at hk
    have := Walk.cons h' (ih hk h)
    rw [← Int.add_assoc] at this
    exact this
omit [DecidableEq α] in
/-- the lengths along a walk -/
theorem walk_lens {w : List α} {L : Int} (W : Walk es w L) : ∃ ls : List Int, ls.sum = L ∧ ls.length = w.length - 1 ∧ ∀ (i : Nat) l, ls[i]? = some l → ∃ x y, w[i]? = some x ∧ w[i + 1]? = some y ∧ Adj es x y l := by
  induction W with
  | one x => exact ⟨[], rfl, rfl, fun i l h => by simp at h⟩
  | @cons x z r l L h _ ih =>
    obtain ⟨ls, h1, h2, h3⟩ := ih
    refine ⟨l :: ls, by rw [List.sum_cons, h1], by simp [h2], fun i l' hl => ?_⟩
    cases i with
    | zero =>
      have e : l = l' := Option.some.inj hl
      subst e
      exact ⟨x, z, rfl, rfl, h⟩
    | succ i => exact h3 i l' hl
omit [DecidableEq α] in
theorem walk_ne {w : List α} {L : Int} (W : Walk es w L) : w ≠ [] := by cases W <;> simp
end
end K59

set_option Elab.async false
set_option linter.all false
set_option maxRecDepth 100000
namespace K59
open PySem PySem.Spec PyProof.Rows L2
/-! ### the text -/
def topS (i : Nat) : Stmt := PySem.Challenge.pw_treeserved_k59_whole_nothing_moves_for_l.main.body.getD i (.Pass ⟨0, 0, 0, 0⟩)
abbrev sNames : Stmt := topS 4
abbrev sNeigh : Stmt := topS 5
abbrev sPath : Stmt := topS 6
abbrev sLenB : Stmt := topS 7
abbrev sDist : Stmt := topS 8
abbrev sSides : Stmt := topS 9
abbrev sExc : Stmt := topS 11
abbrev sFlow : Stmt := topS 12
abbrev sCost : Stmt := topS 13
abbrev sWay : Stmt := topS 14
abbrev sPlan : Stmt := topS 15
abbrev sPrices : Stmt := topS 16
abbrev sCell : Stmt := topS 18
abbrev sDraw : Stmt := topS 19
abbrev sTree : Stmt := topS 20
abbrev sLNames : Stmt := topS 21
abbrev sLoads : Stmt := topS 22
abbrev sSum : Stmt := topS 23
abbrev sMoved : Stmt := topS 24
abbrev sOther : Stmt := topS 25
abbrev sLaw : Stmt := topS 26
theorem scNames : FnScope ["some_tree", "name", "weight"] ["some_tree"] (defScope sNames) := ⟨rfl, rfl, rfl, by decide +kernel, rfl, by decide +kernel, by decide +kernel⟩
theorem scNeigh : FnScope ["some_tree", "name", "found", "first", "second", "length"] ["some_tree", "name"] (defScope sNeigh) := ⟨rfl, rfl, rfl, by decide +kernel, rfl, by decide +kernel, by decide +kernel⟩
theorem scPath : FnScope ["some_tree", "first", "second", "ways", "waiting", "name", "other", "_"] ["some_tree", "first", "second"] (defScope sPath) := ⟨rfl, rfl, rfl, by decide +kernel, rfl, by decide +kernel, by decide +kernel⟩
theorem scLenB : FnScope ["some_tree", "first", "second", "name", "length"] ["some_tree", "first", "second"] (defScope sLenB) := ⟨rfl, rfl, rfl, by decide +kernel, rfl, by decide +kernel, by decide +kernel⟩
theorem scDist : FnScope ["some_tree", "first", "second", "way", "k"] ["some_tree", "first", "second"] (defScope sDist) := ⟨rfl, rfl, rfl, by decide +kernel, rfl, by decide +kernel, by decide +kernel⟩
theorem scSides : FnScope ["some_tree", "first", "second", "near", "name"] ["some_tree", "first", "second"] (defScope sSides) := ⟨rfl, rfl, rfl, by decide +kernel, rfl, by decide +kernel, by decide +kernel⟩
theorem scExc : FnScope ["some_tree", "first", "second", "name", "number", "more", "weight"] ["some_tree", "first", "second"] (defScope sExc) := ⟨rfl, rfl, rfl, by decide +kernel, rfl, by decide +kernel, by decide +kernel⟩
theorem scFlow : FnScope ["some_tree", "first", "second", "more", "found", "one", "other", "_", "number", "name"] ["some_tree", "first", "second"] (defScope sFlow) := ⟨rfl, rfl, rfl, by decide +kernel, rfl, by decide +kernel, by decide +kernel⟩
theorem scCost : FnScope ["some_tree", "first", "second", "total", "one", "other", "number"] ["some_tree", "first", "second"] (defScope sCost) := ⟨rfl, rfl, rfl, by decide +kernel, rfl, by decide +kernel, by decide +kernel⟩
theorem scWay : FnScope ["left", "more", "start", "way", "one", "other"] ["left", "more", "start"] (defScope sWay) := ⟨rfl, rfl, rfl, by decide +kernel, rfl, by decide +kernel, by decide +kernel⟩
theorem scPlan : FnScope ["some_tree", "first", "second", "more", "left", "one", "other", "number", "moves", "start", "way", "steps", "step", "name", "k"] ["some_tree", "first", "second"] (defScope sPlan) := ⟨rfl, rfl, rfl, by decide +kernel, rfl, by decide +kernel, by decide +kernel⟩
theorem scPrices : FnScope ["some_tree", "first", "second", "moved", "one", "other", "_", "start", "found", "waiting", "name", "length"] ["some_tree", "first", "second"] (defScope sPrices) := ⟨rfl, rfl, rfl, by decide +kernel, rfl, by decide +kernel, by decide +kernel⟩
theorem scCell : FnScope ["_law_script", "_law_k"] ["_law_script", "_law_k"] (defScope sCell) := ⟨rfl, rfl, rfl, by decide +kernel, rfl, by decide +kernel, by decide +kernel⟩
theorem scDraw : FnScope ["_law_script", "_law_k", "_law_sizes", "_law_cell_here", "_law_drawn", "_law_size", "_law_stirred", "_law_j"] ["_law_script", "_law_k", "_law_sizes"] (defScope sDraw) := ⟨rfl, rfl, rfl, by decide +kernel, rfl, by decide +kernel, by decide +kernel⟩
theorem scTree : FnScope ["_law_script", "_law_k", "_law_most", "_law_digits", "_law_names_here", "_law_many", "_law_nodes", "_law_edges", "_law_j", "_law_weight", "_law_other_here", "_law_length", "_law_first", "_law_second"] ["_law_script", "_law_k", "_law_most"] (defScope sTree) := ⟨rfl, rfl, rfl, by decide +kernel, rfl, by decide +kernel, by decide +kernel⟩
theorem scLNames : FnScope ["_law_tree_here", "_law_name", "_law_weight"] ["_law_tree_here"] (defScope sLNames) := ⟨rfl, rfl, rfl, by decide +kernel, rfl, by decide +kernel, by decide +kernel⟩
theorem scLoads : FnScope ["_law_script", "_law_k", "_law_tree_here", "_law_digits", "_law_more", "_law_names_here", "_law_first", "_law_second", "_law_j", "_law_name", "_law_gap", "_law_many", "_law_pair"] ["_law_script", "_law_k", "_law_tree_here"] (defScope sLoads) := ⟨rfl, rfl, rfl, by decide +kernel, rfl, by decide +kernel, by decide +kernel⟩
theorem scSum : FnScope ["_law_load", "_law_name", "_law_many"] ["_law_load"] (defScope sSum) := ⟨rfl, rfl, rfl, by decide +kernel, rfl, by decide +kernel, by decide +kernel⟩
theorem scMoved : FnScope ["_law_load", "_law_moves", "_law_held", "_law_one", "_law_other_here", "_law_many", "_law_name"] ["_law_load", "_law_moves"] (defScope sMoved) := ⟨rfl, rfl, rfl, by decide +kernel, rfl, by decide +kernel, by decide +kernel⟩
theorem scOther : FnScope ["_law_script", "_law_k", "_law_first", "_law_second", "_law_digits", "_law_much", "_law_lack", "_law_moves", "_law_turn", "_law_one", "_law_two", "_law_start", "_law_end", "_law_many", "_law_name"] ["_law_script", "_law_k", "_law_first", "_law_second"] (defScope sOther) := ⟨rfl, rfl, rfl, by decide +kernel, rfl, by decide +kernel, by decide +kernel⟩
theorem scLaw : FnScope ["_law_script", "_law_k", "_law_tree_here", "_law_first", "_law_second", "_law_moves", "_law_told", "_law_one", "_law_other_here", "_law_price", "_law_length", "_law_gain", "_law_others", "_law_many", "_law_name"] ["_law_script"] (defScope sLaw) := ⟨rfl, rfl, rfl, by decide +kernel, rfl, by decide +kernel, by decide +kernel⟩
end K59

set_option Elab.async false
set_option linter.all false
set_option maxRecDepth 100000
set_option maxHeartbeats 1000000
namespace K59
open PySem PySem.Spec PyProof.Rows L2
/-! ### heaps -/
/-- the tuples stay -/
def TStay (H H' : Hp) : Prop := ∀ b xs, H b = some (.tup xs) → H' b = some (.tup xs)
theorem TStay.refl (H : Hp) : TStay H H := fun _ _ h => h
theorem TStay.trans {H H1 H2 : Hp} (a : TStay H H1) (b : TStay H1 H2) : TStay H H2 := fun c xs h => b c xs (a c xs h)
theorem same_tstay {H H' : Hp} (s : Same H H') : TStay H H' := fun b xs h => s b _ h
theorem tstay_new {H : Hp} {p : Addr} {o : HO} (h : H p = none) : TStay H (upd H p o) := fun b xs e => by rw [upd_ne (ne_of_none e h)]; exact e
theorem tstay_upd {H : Hp} {p : Addr} {o u : HO} (h : H p = some u) (n : ∀ ys, u ≠ .tup ys) : TStay H (upd H p o) := fun b xs e => by
  rw [upd_ne fun z => by rw [z, h] at e; exact n xs (Option.some.inj e)]; exact e
theorem same_new {H : Hp} {p : Addr} {o : HO} (h : H p = none) : Same H (upd H p o) := fun b u e => by rw [upd_ne (ne_of_none e h)]; exact e
/-- what stood at the entry still stands where an object of one's own is laid or written -/
theorem same_own {H0 H : Hp} {p : Addr} {o : HO} (s : Same H0 H) (h : H0 p = none) : Same H0 (upd H p o) := fun b u e => by
  rw [upd_ne (ne_of_none e h)]; exact s b u e
theorem ne_new {H : Hp} {a p : Addr} {o : HO} (h : H a = some o) (n : H p = none) : a ≠ p := ne_of_none h n

/-! ### data: pairs, triples, trees, loads -/
abbrev Ed' := Str × Str × Int
def PairAt (H : Hp) (v : V) (p : Str × Int) : Prop := ∃ a, v = .ref a ∧ H a = some (.tup [.str p.1, .int p.2])
def TripAt (H : Hp) (v : V) (e : Str × Str × Int) : Prop := ∃ a, v = .ref a ∧ H a = some (.tup [.str e.1, .str e.2.1, .int e.2.2])
def TreeAt (H : Hp) (v : V) (N : List (Str × Int)) (E : List Ed') : Prop :=
  ∃ a n e ns es, v = .ref a ∧ H a = some (.tup [.ref n, .ref e]) ∧ H n = some (.tup ns) ∧ H e = some (.tup es) ∧ Paired (PairAt H) ns N ∧ Paired (TripAt H) es E
def LoadAt (H : Hp) (v : V) (F : List (Str × Int)) : Prop := ∃ l xs, v = .ref l ∧ H l = some (.lst xs) ∧ Paired (PairAt H) xs F
def MovesAt (H : Hp) (v : V) (M : List (Str × Str × Int)) : Prop := ∃ l xs, v = .ref l ∧ H l = some (.lst xs) ∧ Paired (TripAt H) xs M
theorem PairAt.stay {H H' : Hp} {v : V} {p : Str × Int} (h : PairAt H v p) (s : TStay H H') : PairAt H' v p := let ⟨a, e, q⟩ := h; ⟨a, e, s _ _ q⟩
theorem TripAt.stay {H H' : Hp} {v : V} {p : Str × Str × Int} (h : TripAt H v p) (s : TStay H H') : TripAt H' v p := let ⟨a, e, q⟩ := h; ⟨a, e, s _ _ q⟩
theorem pairs_stay {H H' : Hp} {vs : List V} {F : List (Str × Int)} (h : Paired (PairAt H) vs F) (s : TStay H H') : Paired (PairAt H') vs F := h.mono fun _ _ q => q.stay s
theorem trips_stay {H H' : Hp} {vs : List V} {F : List (Str × Str × Int)} (h : Paired (TripAt H) vs F) (s : TStay H H') : Paired (TripAt H') vs F := h.mono fun _ _ q => q.stay s
theorem TreeAt.stay {H H' : Hp} {v : V} {N : List (Str × Int)} {E : List Ed'} (h : TreeAt H v N E) (s : TStay H H') : TreeAt H' v N E :=
  let ⟨a, n, e, ns, es, h1, h2, h3, h4, h5, h6⟩ := h; ⟨a, n, e, ns, es, h1, s _ _ h2, s _ _ h3, s _ _ h4, pairs_stay h5 s, trips_stay h6 s⟩
theorem LoadAt.same {H H' : Hp} {v : V} {F : List (Str × Int)} (h : LoadAt H v F) (s : Same H H') : LoadAt H' v F :=
  let ⟨l, xs, h1, h2, h3⟩ := h; ⟨l, xs, h1, s _ _ h2, pairs_stay h3 (same_tstay s)⟩
theorem MovesAt.same {H H' : Hp} {v : V} {F : List (Str × Str × Int)} (h : MovesAt H v F) (s : Same H H') : MovesAt H' v F :=
  let ⟨l, xs, h1, h2, h3⟩ := h; ⟨l, xs, h1, s _ _ h2, trips_stay h3 (same_tstay s)⟩
theorem paired_at {α β : Type} {R : α → β → Prop} : ∀ {xs : List α} {ys : List β} {i : Nat} {x : α}, Paired R xs ys → xs[i]? = some x → ∃ y, ys[i]? = some y ∧ R x y
  | _, _, i, _, .nil, e => by simp at e
  | _, _, 0, _, .cons r _, e => ⟨_, rfl, by have := Option.some.inj e; subst this; exact r⟩
  | _, _, i + 1, _, .cons _ t, e => paired_at (i := i) t e
theorem paired_append {α β : Type} {R : α → β → Prop} : ∀ {xs xs' : List α} {ys ys' : List β}, Paired R xs ys → Paired R xs' ys' → Paired R (xs ++ xs') (ys ++ ys')
  | _, _, _, _, .nil, h => h
  | _, _, _, _, .cons r t, h => .cons r (paired_append t h)

/-! ### dicts by keys and a function -/
def dV (ks : List Str) (g : Str → V) : List (Key × V) := ks.map fun k => (Sum.inr k, g k)
abbrev dI (ks : List Str) (f : Str → Int) : List (Key × V) := dV ks fun k => .int (f k)
def put {β : Type} (g : Str → β) (k : Str) (v : β) : Str → β := fun x => if x = k then v else g x
theorem put_same {β : Type} (g : Str → β) (k : Str) (v : β) : put g k v k = v := if_pos rfl
theorem put_ne {β : Type} (g : Str → β) {k x : Str} (v : β) (h : x ≠ k) : put g k v x = g x := if_neg h
theorem dV_length (ks : List Str) (g : Str → V) : (dV ks g).length = ks.length := List.length_map ..
theorem dV_keys (ks : List Str) (g : Str → V) : (dV ks g).map (·.1) = ks.map Sum.inr := by
  unfold dV; rw [List.map_map]; rfl
theorem dV_get : ∀ {ks : List Str} {g : Str → V} {k : Str}, k ∈ ks → valV (dV ks g) (Sum.inr k) = some (g k)
  | a :: ks, g, k, h => by
    by_cases e : a = k
    · subst e; exact valV_pos rfl
    · have := List.mem_cons.mp h
      exact (valV_neg (p := (Sum.inr a, g a)) fun z => e (Sum.inr.inj z)).trans (dV_get (ks := ks) (this.resolve_left fun z => e z.symm))
theorem dV_no : ∀ {ks : List Str} {g : Str → V} {k : Str}, k ∉ ks → valV (dV ks g) (Sum.inr k) = none
  | [], g, k, h => rfl
  | a :: ks, g, k, h => by
    have e : a ≠ k := fun z => h (by rw [z]; exact List.mem_cons_self)
    exact (valV_neg (p := (Sum.inr a, g a)) fun z => e (Sum.inr.inj z)).trans (dV_no (ks := ks) fun z => h (List.mem_cons_of_mem _ z))
theorem dV_isSome {ks : List Str} {g : Str → V} {k : Str} : (valV (dV ks g) (Sum.inr k)).isSome = decide (k ∈ ks) := by
  by_cases h : k ∈ ks
  · rw [dV_get h]; simp [h]
  · rw [dV_no h]; simp [h]
theorem dV_congr {ks : List Str} {g g' : Str → V} (h : ∀ k ∈ ks, g k = g' k) : dV ks g = dV ks g' := List.map_congr_left fun k hk => by rw [h k hk]
theorem dV_put {ks : List Str} {g : Str → V} {k : Str} {v : V} (h : k ∈ ks) : putK (dV ks g) (Sum.inr k) v = dV ks (put g k v) := by
  unfold putK
  rw [if_pos (by rw [valV_any, dV_get h]; rfl)]
  unfold dV
  rw [List.map_map]
  refine List.map_congr_left fun x _ => ?_
  show (if (Sum.inr x : Key) = Sum.inr k then ((Sum.inr x : Key), v) else (Sum.inr x, g x)) = _
  by_cases e : x = k
  · rw [if_pos (congrArg Sum.inr e), e, put_same]
  · rw [if_neg fun z => e (Sum.inr.inj z), put_ne g v e]
theorem dV_new {ks : List Str} {g : Str → V} {k : Str} {v : V} (h : k ∉ ks) : putK (dV ks g) (Sum.inr k) v = dV (ks ++ [k]) (put g k v) := by
  rw [putK_new v (dV_no h)]
  unfold dV
  rw [List.map_append]
  congr 1
  · exact List.map_congr_left fun x hx => by rw [put_ne g v fun (e : x = k) => h (e ▸ hx)]
  · show _ = [((Sum.inr k : Key), put g k v k)]
    rw [put_same]
theorem dI_put {ks : List Str} {f : Str → Int} {k : Str} {v : Int} (h : k ∈ ks) : putK (dI ks f) (Sum.inr k) (.int v) = dI ks (put f k v) := by
  rw [dI, dV_put h]
  exact dV_congr fun x _ => by unfold put; split <;> rfl
theorem dI_new {ks : List Str} {f : Str → Int} {k : Str} {v : Int} (h : k ∉ ks) : putK (dI ks f) (Sum.inr k) (.int v) = dI (ks ++ [k]) (put f k v) := by
  rw [dI, dV_new h]
  exact dV_congr fun x _ => by unfold put; split <;> rfl
/-- a load as a dict -/
theorem dI_of : ∀ {F : List (Str × Int)} (G : List (Str × Int)), ((G ++ F).map (·.1)).Nodup →
    mergeK (dI (G.map (·.1)) (val G)) (F.map fun q => (Sum.inr q.1, V.int q.2)) = dI ((G ++ F).map (·.1)) (val (G ++ F))
  | [], G, _ => by rw [List.append_nil]; rfl
  | q :: F, G, nd => by
    have e : G ++ q :: F = (G ++ [q]) ++ F := by simp
    rw [e] at nd ⊢
    rw [← dI_of (F := F) (G ++ [q]) nd]
    show mergeK (putK (dI (G.map (·.1)) (val G)) (Sum.inr q.1) (V.int q.2)) _ = _
    have nd1 : ((G ++ [q]).map (·.1)).Nodup := by
      rw [List.map_append] at nd
      exact (List.nodup_append.mp nd).1
    have hq : q.1 ∉ G.map (·.1) := fun h => by
      rw [List.map_append] at nd1
      exact (List.nodup_append.mp nd1).2.2 _ h q.1 List.mem_cons_self rfl
    rw [dI_new hq]
    congr 1
    rw [List.map_append]
    refine dV_congr fun x hx => ?_
    have hv : val (G ++ [q]) x = put (val G) q.1 q.2 x := by
      rw [val_append, val_cons]
      unfold put
      by_cases e2 : x = q.1
      · rw [if_pos e2, if_pos e2.symm, e2, val_out fun r hr z => hq (List.mem_map.mpr ⟨r, hr, z⟩)]
        simp [val, sm_nil]
      · rw [if_neg e2, if_neg fun z => e2 z.symm]
        simp [val, sm_nil]
    rw [hv]
/-- a dict whose keys are pairs of texts -/
def kT (k : Str × Str) : List Key := [Sum.inr k.1, Sum.inr k.2]
theorem kT_inj {a b : Str × Str} (h : kT a = kT b) : a = b := by
  obtain ⟨a1, a2⟩ := a
  obtain ⟨b1, b2⟩ := b
  unfold kT at h
  have h1 := List.cons.inj h
  have h2 := List.cons.inj h1.2
  exact Prod.ext (Sum.inr.inj h1.1) (Sum.inr.inj h2.1)
def dT2 (L : List ((Str × Str) × V)) : List (List Key × V) := L.map fun p => (kT p.1, p.2)
theorem dT2_length (L : List ((Str × Str) × V)) : (dT2 L).length = L.length := List.length_map ..
theorem dT2_get : ∀ {L : List ((Str × Str) × V)} {k : Str × Str} {v : V}, (L.map (·.1)).Nodup → (k, v) ∈ L → valV (dT2 L) (kT k) = some v
  | p :: L, k, v, nd, h => by
    have nd' := List.nodup_cons.mp (show (p.1 :: L.map (·.1)).Nodup from nd)
    by_cases e : p.1 = k
    · rcases List.mem_cons.mp h with z | z
      · rw [← z]; exact valV_pos rfl
      · exact absurd (List.mem_map.mpr ⟨_, z, e.symm⟩) nd'.1
    · rcases List.mem_cons.mp h with z | z
      · exact absurd (by rw [← z]) e
      · exact (valV_neg (p := (kT p.1, p.2)) fun z => e (kT_inj z)).trans (dT2_get nd'.2 z)
theorem dT2_no : ∀ {L : List ((Str × Str) × V)} {k : Str × Str}, k ∉ L.map (·.1) → valV (dT2 L) (kT k) = none
  | [], k, _ => rfl
  | p :: L, k, h => by
    have e : p.1 ≠ k := fun z => h (by rw [← z]; exact List.mem_cons_self)
    exact (valV_neg (p := (kT p.1, p.2)) fun z => e (kT_inj z)).trans (dT2_no (L := L) fun z => h (List.mem_cons_of_mem _ z))
theorem dT2_isSome {L : List ((Str × Str) × V)} (nd : (L.map (·.1)).Nodup) {k : Str × Str} : (valV (dT2 L) (kT k)).isSome = decide (k ∈ L.map (·.1)) := by
  by_cases h : k ∈ L.map (·.1)
  · obtain ⟨⟨k', v⟩, hv, e⟩ := List.mem_map.mp h
    have e' : k' = k := e
    subst e'
    rw [dT2_get nd hv]; simp [h]
  · rw [dT2_no h]; simp [h]
theorem dT2_new {L : List ((Str × Str) × V)} {k : Str × Str} {v : V} (h : k ∉ L.map (·.1)) : putK (dT2 L) (kT k) v = dT2 (L ++ [(k, v)]) := by
  rw [putK_new v (dT2_no h)]
  unfold dT2
  rw [List.map_append]; rfl
theorem dT2_put {L : List ((Str × Str) × V)} {k : Str × Str} {v : V} (h : k ∈ L.map (·.1)) (nd : (L.map (·.1)).Nodup) : putK (dT2 L) (kT k) v = dT2 (L.map fun p => (p.1, if p.1 = k then v else p.2)) := by
  obtain ⟨⟨k', w⟩, hw, e⟩ := List.mem_map.mp h
  have e' : k' = k := e
  subst e'
  unfold putK
  rw [if_pos (by rw [valV_any, dT2_get nd hw]; rfl)]
  unfold dT2
  rw [List.map_map, List.map_map]
  refine List.map_congr_left fun p _ => ?_
  show (if kT p.1 = kT k' then (kT p.1, v) else (kT p.1, p.2)) = (kT p.1, if p.1 = k' then v else p.2)
  by_cases q : p.1 = k'
  · rw [if_pos (congrArg kT q), if_pos q]
  · rw [if_neg fun z => q (kT_inj z), if_neg q]
/-- numbers -/
def nI (L : List ((Str × Str) × Int)) : List ((Str × Str) × V) := L.map fun p => (p.1, .int p.2)
theorem nI_keys (L : List ((Str × Str) × Int)) : (nI L).map (·.1) = L.map (·.1) := by unfold nI; rw [List.map_map]; rfl
theorem nI_mem {L : List ((Str × Str) × Int)} {k : Str × Str} {n : Int} (h : (k, n) ∈ L) : (k, V.int n) ∈ nI L := List.mem_map.mpr ⟨_, h, rfl⟩
end K59

set_option Elab.async false
set_option linter.all false
set_option maxRecDepth 100000
set_option maxHeartbeats 1000000
namespace K59
open PySem PySem.Spec PyProof.Rows L2
/-! ### name = {..} on one line, the name a local -/
section
variable {X : Cx}
theorem sw_dict {kx vx : Expr} {gs : List Comprehension} {scope : Scope} {pos py : Pos} {y : Str} {l : Nat} {env : Env} (hk : env.scope.kind = .function) (hy : env.scope.names.lookup y = some .local) (hl : (py.line == pos.line) = true)
    (ha : (scope.names.any fun (n, k) => n == y && (k == .local || k == .cell)) = false) : swapsWith (.DictComp kx vx gs scope pos) (some (.Name y py)) l env = pure true := by
  have ky : env.kindOf y = some .local := hy
  have hb : env.blockKind = .function := by unfold Env.blockKind; rw [hk]; rfl
  unfold swapsWith
  simp only [hb, ky, ha, Expr.pos, hl]
  rfl
theorem ps_setDc {i : Nat} {y : Str} {py : Pos} {kx vx tg iter : Expr} {ifs : List Expr} {scope : Scope} {own : List (Str × Nat)} {pos spos : Pos} {wi : TI} {g : TG} {tt : TT} {tk tv : TE} (hc : X.calm = true) (hN : X.N.Nodup) (hy : X.N[i]? = some y) (hyl : X.env.scope.names.lookup y = some .local)
    (hsw : swapsWith (.DictComp kx vx [⟨tg, iter, ifs, 0⟩] scope pos) (some (.Name y py)) spos.line X.env = pure true) (hi : PI X tg iter wi) (ok : BlkOk X.N X.env.scope scope own)
    (hg : ∀ (s : Shared) (H : Hp) (C : Addr) (cl : List (Str × Addr)) (fp : List Addr), PG (X.blk s H scope (compEnvC scope cl C X.env) fp) tg g) (ht : ∀ (s : Shared) (H : Hp) (C : Addr) (cl : List (Str × Addr)) (fp : List Addr), PTs (X.blk s H scope (compEnvC scope cl C X.env) fp) ifs tt)
    (hk : ∀ (s : Shared) (H : Hp) (C : Addr) (cl : List (Str × Addr)) (fp : List Addr), PE (X.blk s H scope (compEnvC scope cl C X.env) fp) kx tk)
    (he : ∀ (s : Shared) (H : Hp) (C : Addr) (cl : List (Str × Addr)) (fp : List Addr), PE (X.blk s H scope (compEnvC scope cl C X.env) fp) vx tv) (hs : ∀ x, foldedSetIterable iter X.env x = pure x := by intro _; rfl) :
    PS X (.Assign [.Name y py] (.DictComp kx vx [⟨tg, iter, ifs, 0⟩] scope pos) spos) (tAsg (tDc wi g tt tk tv (own.map (·.2))) (gName i)) := by
  refine ⟨fun pins s σ H D I h => ?_⟩
  rw [exec_Assign_Name_used _ _ _ _ hsw]
  refine wpAny_bind (wpAny_standAt (wpAny_bind ?_))
  show wpAny _ X.A (do let _ ← comprehension (.DictComp kx vx [⟨tg, iter, ifs, 0⟩] scope pos) scope X.env (firstIterPos [⟨tg, iter, ifs, 0⟩] pos) newDict false (eval iter X.env) (some (assign (.Name y py) X.env))) _ _ s
  have h : tDc wi g tt tk tv (own.map (·.2)) σ H (fun x H1 => gName i x σ H1 D.nx) := h
  refine wpAny_bind (thn (dc_core (Qf := fun _ s' => SP X pins D .next s') hc hN I hi ok hg ht hk he hs h fun L C s' m H' I' q hn f => ?_) fun _ s' hq => wpAny_pure (wpAny_pure hq))
  show wpAny _ _ (assign (.Name y py) X.env (.ref L)) _ _ _
  refine wpAny_assign_Name (store_ok2 (v := V.ref L) I' hN hy (.inl hyl) rfl (fun s2 I2 ⟨a, sb, ha⟩ => ?_) (.inr hyl))
  obtain ⟨f0, f1, f2, f3, f4, f5⟩ := f
  have haC : C ≠ a := by
    rcases ha with z | z
    · rw [z]; exact f1
    · exact fun e => f4 y a z e.symm
  refine ⟨m, hn.sameBut sb haC, fun h3 sb3 => ?_⟩
  exact ⟨_, H', I2.turned (t' := s2.toks) (fun b o hb e => (sb3.2 b hb).trans e) f0 f1 f3 f4 f5, q⟩
end

/-! ### sorted of data -/
theorem each_of {P : Hp → V → β → Prop} {H : Hp} : ∀ {xs : List V} {us : List Value} {bs : List β}, Vals xs us → Paired (P H) xs bs → PySem.W.EachIs (fun u b => ∃ v, RelV v u ∧ P H v b) us bs
  | _, _, _, .nil, .nil => .nil
  | _, _, _, .cons r t, .cons q t' => .cons ⟨_, r, q⟩ (each_of t t')
theorem of_each {P : Hp → V → β → Prop} {H : Hp} : ∀ {us : List Value} {bs : List β}, PySem.W.EachIs (fun u b => ∃ v, RelV v u ∧ P H v b) us bs → ∃ xs, Vals xs us ∧ Paired (P H) xs bs
  | _, _, .nil => ⟨[], .nil, .nil⟩
  | _, _, .cons ⟨v, r, q⟩ t => let ⟨xs, a, b⟩ := of_each t; ⟨v :: xs, .cons r a, .cons q b⟩
section
variable {X : Cx}
theorem cr_sortedR {β : Type} (enc : β → PyData) (R : Hp → V → β → Prop) (hR : ∀ H v b, R H v b → Dp X.K H v (enc b)) (hu : X.A.units + 64 < cLine) (hd : ∀ b, (enc b).depth ≤ 60) :
    CallR X (.builtin "sorted") (fun vs H Q => ∃ (a : Addr) (xs : List V) (bs : List β), vs = [.ref a] ∧ SqL X.K H a xs ∧ Paired (R H) xs bs ∧ PySem.W.AllAlike (bs.map enc) ∧ PySem.W.Sortable (bs.map enc) ∧
      ∀ xs' p, Paired (R H) xs' (bs.mergeSort (PySem.W.dataLe false enc)) → H p = none → Q (.ref p) (upd H p (.lst xs'))) := by
  intro pins s σ H vs us Q I r h
  obtain ⟨a, xs, bs, rfl, hs, hp, hal, hk, q⟩ := h
  obtain ⟨its, rv, hl, hz⟩ := I.list hs
  rw [Vals.ref1 r]
  have e := each_of rv hp
  have er : PySem.W.EachIs (fun u b => ∃ as, Reads s.heap u (enc b) as) its bs := e.mono fun u b ⟨v, rv, rb⟩ => Dp.reads I (enc b) v u (hR _ _ _ rb) rv
  have hlen : bs.length ≤ sizeLine := by rw [← Paired.length hp]; exact hz
  refine PySem.W.sorted_data hl.isList e er hal hk hlen (fun b _ => by have := hd b; omega) fun out ho eo => ?_
  obtain ⟨ep, he'⟩ := PyProof.Rows.sortedAll_at s.heap its (List.toArray out)
  obtain ⟨xs', rv', pr'⟩ := of_each eo
  refine ⟨.ref _, upd H (s.heap.objs.size + 1) (.lst xs'), I.laid (t' := s.toks) (fun _ _ => PyProof.Rows.sortedAll_old) (Nat.le_succ _) ⟨?_, out, ep, rv', he'⟩, rfl, q xs' _ pr' (I.hok.fresh (Nat.le_succ _))⟩
  rw [rv'.length, ho]; exact hlen

/-! pairs and triples -/
def eP (p : Str × Int) : PyData := .tuple [.str p.1, .int p.2]
def eT (p : Str × Str × Int) : PyData := .tuple [.str p.1, .str p.2.1, .int p.2.2]
theorem PairAt.dp {K : PySem.W.Frag} {H : Hp} {v : V} {p : Str × Int} (h : PairAt H v p) : Dp K H v (eP p) := by
  obtain ⟨a, rfl, e⟩ := h
  exact .tup (SqT.of e) (.cons (.str _) (.cons (.int _) .nil))
theorem TripAt.dp {K : PySem.W.Frag} {H : Hp} {v : V} {p : Str × Str × Int} (h : TripAt H v p) : Dp K H v (eT p) := by
  obtain ⟨a, rfl, e⟩ := h
  exact .tup (SqT.of e) (.cons (.str _) (.cons (.str _) (.cons (.int _) .nil)))
theorem alikeP (a b : Str × Int) : PySem.W.alike (eP a) (eP b) = true := by simp [eP, PySem.W.alike, PySem.W.alikeAll]
theorem alikeT (a b : Str × Str × Int) : PySem.W.alike (eT a) (eT b) = true := by simp [eT, PySem.W.alike, PySem.W.alikeAll]
theorem depthP (a : Str × Int) : (eP a).depth ≤ 60 := by simp [eP, PyData.depth, PyData.depthAll]
theorem depthT (a : Str × Str × Int) : (eT a).depth ≤ 60 := by simp [eT, PyData.depth, PyData.depthAll]
/-- texts by their signs -/
def sle (x y : Str) : Prop := x.cps.toList ≤ y.cps.toList
theorem dataLe_name {a b : Str × Int} (h : PySem.W.dataLe false eP a b = true) : sle a.1 b.1 := by
  rw [PySem.W.dataLe_eq] at h
  have h : (!PySem.W.dataLt (eP b) (eP a)) = true := h
  unfold eP at h
  rw [PySem.W.dataLt_pair (by simp [PySem.W.alike]) (by simp [PySem.W.alike])] at h
  unfold sle
  by_cases e : PyData.eqv (.str b.1) (.str a.1) = true
  · have : b.1 = a.1 := by simpa [PyData.eqv] using e
    rw [this]; exact List.le_refl _
  · rw [if_neg e, PySem.W.dataLt_str] at h
    have : ¬ b.1.cps.toList < a.1.cps.toList := by simpa using h
    exact List.not_lt.mp this
theorem cr_sortedP (hu : X.A.units + 64 < cLine) :
    CallR X (.builtin "sorted") (fun vs H Q => ∃ (a : Addr) (xs : List V) (F : List (Str × Int)), vs = [.ref a] ∧ SqL X.K H a xs ∧ Paired (PairAt H) xs F ∧
      ∀ xs' F' p, Paired (PairAt H) xs' F' → F'.Perm F → F'.Pairwise (fun a b => sle a.1 b.1) → H p = none → Q (.ref p) (upd H p (.lst xs'))) := by
  intro pins s σ H vs us Q I r h
  obtain ⟨a, xs, F, rfl, hs, hp, q⟩ := h
  refine cr_sortedR eP PairAt (fun _ _ _ h => h.dp) hu depthP pins s σ H _ us Q I r ⟨a, xs, F, rfl, hs, hp, .of alikeP, .tuples fun b => ⟨_, _, rfl⟩, fun xs' p hp' hn => ?_⟩
  exact q xs' _ p hp' (List.mergeSort_perm F _) ((PySem.W.sort_pairwise (PySem.W.sortLe_total _ _ _) F).imp fun h => dataLe_name h) hn
theorem cr_sortedT (hu : X.A.units + 64 < cLine) :
    CallR X (.builtin "sorted") (fun vs H Q => ∃ (a : Addr) (xs : List V) (F : List (Str × Str × Int)), vs = [.ref a] ∧ SqL X.K H a xs ∧ Paired (TripAt H) xs F ∧
      ∀ xs' F' p, Paired (TripAt H) xs' F' → F'.Perm F → H p = none → Q (.ref p) (upd H p (.lst xs'))) := by
  intro pins s σ H vs us Q I r h
  obtain ⟨a, xs, F, rfl, hs, hp, q⟩ := h
  refine cr_sortedR eT TripAt (fun _ _ _ h => h.dp) hu depthT pins s σ H _ us Q I r ⟨a, xs, F, rfl, hs, hp, .of alikeT, .tuples fun b => ⟨_, _, rfl⟩, fun xs' p hp' hn => ?_⟩
  exact q xs' _ p hp' (List.mergeSort_perm F _) hn
/-- min of a list of texts: one of them -/
theorem cr_minS (hc : X.calm = true) (hu : X.A.units + 64 < cLine) :
    CallR X (.builtin "min") (fun vs H Q => ∃ (a : Addr) (zs : List Str), vs = [.ref a] ∧ SqL X.K H a (zs.map V.str) ∧ zs ≠ [] ∧ ∀ z ∈ zs, Q (.str z) H) := by
  intro pins s σ H vs us Q I r h
  obtain ⟨a, zs, rfl, hs, hne, q⟩ := h
  obtain ⟨its, rv, hl, hz⟩ := I.list hs
  rw [Vals.ref1 r]
  cases zs with
  | nil => exact absurd rfl hne
  | cons x xs =>
    have dp : ∀ l : List Str, DpAll X.K H (l.map V.str) (l.map PyData.str) := fun l => by
      induction l with
      | nil => exact .nil
      | cons y l ih => exact .cons (.str y) ih
    obtain ⟨as, hr⟩ := Dp.readsAll I ((x :: xs).map PyData.str) _ its (dp _) rv
    have hdep : PyData.depthAll ((x :: xs).map PyData.str) = 0 := by
      have : ∀ l : List Str, PyData.depthAll (l.map PyData.str) = 0 := fun l => by
        induction l with
        | nil => rfl
        | cons y l ih => simp [PyData.depthAll, PyData.depth, ih]
      exact this _
    refine PySem.W.min_list_data (vs := its.toArray) (x := .str x) (xs := xs.map PyData.str) (as := as) (I.ok.hd hc) hl.isList (by simpa using hr) ⟨fun p hp p' hp' => ?_, fun p hp => ?_⟩ (by rw [show PyData.str x :: xs.map PyData.str = (x :: xs).map PyData.str from rfl, hdep]; omega) fun i v h' tk bs hv _ hk => ?_
    · obtain ⟨y, _, rfl⟩ := List.mem_map.mp (show p ∈ (x :: xs).map PyData.str from hp)
      obtain ⟨y', _, rfl⟩ := List.mem_map.mp (show p' ∈ (x :: xs).map PyData.str from hp')
      simp [PySem.W.alike]
    · obtain ⟨y, _, rfl⟩ := List.mem_map.mp (show p ∈ (x :: xs).map PyData.str from hp)
      exact fun z => nomatch z
    · have hv' : its[i]? = some v := by simpa using hv
      obtain ⟨z, hz', rz⟩ : ∃ z, (((x :: xs).map V.str)[i]?) = some z ∧ RelV z v := by
        have hlen := rv.length
        have hi : i < its.length := (List.getElem?_eq_some_iff.mp hv').1
        have hi2 : i < ((x :: xs).map V.str).length := by rw [hlen]; exact hi
        obtain ⟨u, hu1, hu2⟩ := rv.get (List.getElem?_eq_getElem hi2)
        rw [hv'] at hu1
        cases hu1
        exact ⟨_, List.getElem?_eq_getElem hi2, hu2⟩
      rw [List.getElem?_map] at hz'
      cases e : (x :: xs)[i]? with
      | none => rw [e] at hz'; cases hz'
      | some y =>
        rw [e] at hz'
        cases hz'
        exact ⟨.str y, H, I.kept hk, rz, q y (List.mem_of_getElem? e)⟩
theorem pairs_refs {H : Hp} {K : PySem.W.Frag} : ∀ {xs : List V} {F : List (Str × Int)}, Paired (PairAt H) xs F → ∃ ps : List Addr, xs = ps.map V.ref ∧ Paired (fun (p : Addr) (kv : Key × V) => SqT K H p [kV kv.1, kv.2]) ps (F.map fun q => ((Sum.inr q.1 : Key), V.int q.2))
  | _, _, .nil => ⟨[], rfl, .nil⟩
  | _, _, .cons ⟨a, e, h⟩ t => by
    obtain ⟨ps, h1, h2⟩ := pairs_refs (K := K) t
    exact ⟨a :: ps, by rw [h1, e]; rfl, .cons (SqT.of h) h2⟩
/-- dict(a load) -/
theorem cr_dictL (hc : X.calm = true) :
    CallR X (.type "dict") (fun vs H Q => ∃ (v : V) (F : List (Str × Int)), vs = [v] ∧ LoadAt H v F ∧ (F.map (·.1)).Nodup ∧ ∀ p, H p = none → Q (.ref p) (upd H p (.dK (dI (F.map (·.1)) (val F))))) := by
  intro pins s σ H vs us Q I r h
  obtain ⟨v, F, rfl, ⟨l, xs, rfl, hl, hp⟩, nd, q⟩ := h
  obtain ⟨ps, rfl, hps⟩ := pairs_refs (K := X.K) hp
  refine call_dictP hc pins s σ H _ us Q I r ⟨l, ps, _, rfl, SqL.of hl, hps, fun p hn => ?_⟩
  have := dI_of (F := F) [] nd
  have e0 : mergeK [] (F.map fun q => ((Sum.inr q.1 : Key), V.int q.2)) = dI (F.map (·.1)) (val F) := this
  rw [e0]
  exact q p hn
/-- != of two loads that are the same -/
theorem op_neL (hu : X.A.units + 64 < cLine) : OpR X (compareOp .NotEq) (fun x y H Q => ∃ F, LoadAt H x F ∧ LoadAt H y F ∧ Q (.bl false) H) := by
  intro pins s σ H x y v u Q I rx ry h
  obtain ⟨F, hx, hy, q⟩ := h
  have dp : ∀ {z : V}, LoadAt H z F → Dp X.K H z (.list (F.map eP)) := fun {z} ⟨l, xs, e, hl, hp⟩ => by
    subst e
    have all : ∀ {xs : List V} {F : List (Str × Int)}, Paired (PairAt H) xs F → DpAll X.K H xs (F.map eP) := fun {xs F} hp => by
      induction hp with
      | nil => exact .nil
      | cons h _ ih => exact .cons h.dp ih
    exact .lst (SqL.of hl) (all hp)
  obtain ⟨as, r1⟩ := Dp.reads I _ x v (dp hx) rx
  obtain ⟨bs, r2⟩ := Dp.reads I _ y u (dp hy) ry
  have pl : ∀ l : List (Str × Int), PyData.plainAll (l.map eP) = true := fun l => by
    induction l with
    | nil => rfl
    | cons y l ih => simp [PyData.plainAll, eP, PyData.plain, ih]
  have dep : PyData.depthAll (F.map eP) ≤ 1 := by
    have : ∀ l : List (Str × Int), PyData.depthAll (l.map eP) ≤ 1 := fun l => by
      induction l with
      | nil => exact Nat.zero_le _
      | cons y l ih => simp [PyData.depthAll, eP, PyData.depth]; omega
    exact this F
  have plF : (PyData.list (F.map eP)).plain = true := by simp only [PyData.plain]; exact pl F
  refine PySem.SeqAt.ne_plain r1 r2 plF plF ?_ ?_
  · have : (PyData.list (F.map eP)).depth ≤ 2 := by simp only [PyData.depth]; omega
    have := Nat.min_le_left (PyData.list (F.map eP)).depth (PyData.list (F.map eP)).depth
    omega
  · rw [PySem.SeqAt.eqv_refl_plain _ plF]
    exact ⟨.bl false, H, I, rfl, q⟩
/-- names != [] -/
theorem op_neNil (hu : X.A.units + 64 < cLine) : OpR X (compareOp .NotEq) (fun x y H Q => ∃ (a b : Addr) (zs : List Str), x = .ref a ∧ y = .ref b ∧ H a = some (.lst (zs.map V.str)) ∧ H b = some (.lst []) ∧ Q (.bl (!zs.isEmpty)) H) := by
  intro pins s σ H x y v u Q I rx ry h
  obtain ⟨a, b, zs, rfl, rfl, ha, hb, q⟩ := h
  have dp : ∀ l : List Str, DpAll X.K H (l.map V.str) (l.map PyData.str) := fun l => by
    induction l with
    | nil => exact .nil
    | cons y l ih => exact .cons (.str y) ih
  obtain ⟨as, r1⟩ := Dp.reads I (.list (zs.map PyData.str)) _ v (.lst (SqL.of ha) (dp zs)) rx
  obtain ⟨bs, r2⟩ := Dp.reads I (.list []) _ u (.lst (SqL.of hb) .nil) ry
  have pl : ∀ l : List Str, PyData.plainAll (l.map PyData.str) = true := fun l => by
    induction l with
    | nil => rfl
    | cons y l ih => simp [PyData.plainAll, PyData.plain, ih]
  refine PySem.SeqAt.ne_plain r1 r2 (by simp only [PyData.plain]; exact pl zs) (by simp [PyData.plain, PyData.plainAll]) ?_ ?_
  · have := Nat.min_le_right (PyData.list (zs.map PyData.str)).depth (PyData.list []).depth
    have : (PyData.list []).depth = 1 := rfl
    omega
  · refine ⟨.bl (!zs.isEmpty), H, I, ?_, q⟩
    show Value.bool _ = Value.bool _
    cases zs with
    | nil => rfl
    | cons z zs => simp [PyData.eqv, PyData.eqvAll]
end
/-! ### what is appended to a list of one's own -/
theorem app_stay {H : Hp} {o p : Addr} {xs ys : List V} {t : List V} (hl : H o = some (.lst xs)) (hp : H p = none) : TStay H (upd (upd H p (.tup t)) o (.lst ys)) :=
  (tstay_new hp).trans (tstay_upd ((upd_ne (ne_new hl hp)).trans hl) fun ys z => nomatch z)
theorem app_pair {H : Hp} {o p : Addr} {xs : List V} {B : List (Str × Int)} {y : Str} {l : Int} (hl : H o = some (.lst xs)) (hp : H p = none) (pr : Paired (PairAt H) xs B) :
    Paired (PairAt (upd (upd H p (.tup [.str y, .int l])) o (.lst (xs ++ [.ref p])))) (xs ++ [.ref p]) (B ++ [(y, l)]) :=
  (pairs_stay pr (app_stay hl hp)).snoc ⟨p, rfl, by rw [upd_ne (ne_new hl hp).symm, upd_same]⟩
theorem app_trip {H : Hp} {o p : Addr} {xs : List V} {B : List (Str × Str × Int)} {x y : Str} {l : Int} (hl : H o = some (.lst xs)) (hp : H p = none) (pr : Paired (TripAt H) xs B) :
    Paired (TripAt (upd (upd H p (.tup [.str x, .str y, .int l])) o (.lst (xs ++ [.ref p])))) (xs ++ [.ref p]) (B ++ [(x, y, l)]) :=
  (trips_stay pr (app_stay hl hp)).snoc ⟨p, rfl, by rw [upd_ne (ne_new hl hp).symm, upd_same]⟩
theorem le2 : 2 ≤ sizeLine := by decide
theorem le3 : 3 ≤ sizeLine := by decide
theorem small {n : Nat} (h : n ≤ 100000) : n < sizeLine := Nat.lt_of_le_of_lt h (by decide)
theorem str_dec {a b : Str} : (decide (V.str a = V.str b) = true) ↔ a = b := by
  rw [decide_eq_true_iff]; exact ⟨fun h => V.str.inj h, fun h => by rw [h]⟩
theorem int_dec {a b : Int} : (decide (V.int a = V.int b) = true) ↔ a = b := by
  rw [decide_eq_true_iff]; exact ⟨fun h => V.int.inj h, fun h => by rw [h]⟩
/-! ### what stands at the module's names -/
structure Blt (mg : Str → Option Value) : Prop where
  sorted : mg "sorted" = none
  len : mg "len" = none
  sum : mg "sum" = none
  min : mg "min" = none
  max : mg "max" = none
  any : mg "any" = none
  range : mg "range" = none
  dict : mg "dict" = none
  tuple : mg "tuple" = none
/-- a def of the module that is called -/
structure Cal (K : PySem.W.Frag) (mg : Str → Option Value) (x : Str) (f : Addr) (fd : FuncData) (ps : List Str) : Prop where
  m : mg x = some (.ref f)
  kp : PySem.W.keepIn K (.ref f) = true
  b : Binds K fd ps []
theorem seq0 {n : Nat} (h : 0 < n) : seqIndex? 0 n = some 0 := by
  unfold seqIndex?
  simp
  omega
theorem inV_str (z : Str) : ∀ w : List Str, inV (.str z) (w.map V.str) = decide (z ∈ w)
  | [] => rfl
  | x :: w => by
    have ih := inV_str z w
    unfold inV at ih ⊢
    rw [List.map_cons, List.any_cons, ih]
    show (x == z || decide (z ∈ w)) = _
    by_cases e : x = z
    · subst e; simp
    · have : (x == z) = false := by simp [e]
      rw [this, Bool.false_or]
      simp [Ne.symm e]
theorem flat_strs (w : List Str) : (w.map V.str).all flatV = true := by
  rw [List.all_eq_true]
  intro x hx
  obtain ⟨y, _, rfl⟩ := List.mem_map.mp hx
  rfl
/-! ### rules whose reading speaks of the written part, for comprehensions' blocks -/
theorem ix_listK {X : Cx} {K : PySem.W.Frag} (h : X.K = K) : IxR X (rIxL K) := h ▸ ix_list
theorem ix_tupK {X : Cx} {K : PySem.W.Frag} (h : X.K = K) : IxR X (rIxT K) := h ▸ ix_tup
theorem op_notInK {X : Cx} {K : PySem.W.Frag} (h : X.K = K) : OpR X (compareOp .NotIn) (rIn K true) := h ▸ op_notIn_seq
end K59

set_option Elab.async false
set_option linter.all false
set_option maxRecDepth 100000
set_option maxHeartbeats 1000000
namespace K59
open PySem PySem.Spec PyProof.Rows L2
/-! ### small trees -/
/-- the tree's data, as all defs want them -/
structure Arb (N : List (Str × Int)) (E : List Ed') (σ : Ed' → Str → Int) : Prop where
  G : Good (N.map (·.1)) E σ
  n12 : N.length ≤ 12
  e12 : E.length ≤ 12
  len : ∀ e ∈ E, e.2.2 ≤ 999
section
variable {P : Program} {w : World} {K : PySem.W.Frag} {mg : Str → Option Value} {base : Heap}
def names (N : List (Str × Int)) : List Str := N.map (·.1)
def spNames : Sp := fun vs H Q _ => ∃ (t : V) (N : List (Str × Int)) (E : List Ed'), vs = [t] ∧ TreeAt H t N E ∧ N.length ≤ 12 ∧
  ∀ H' p, Same H H' → H p = none → H' p = some (.lst ((names N).map V.str)) → Q (.ref p) H'
theorem ok_names {f : Addr} {fd : FuncData} (F : Fun K "names_of" "names_of" sNames f fd) : FnOk P w K mg base CX0 1 f fd ["some_tree"] spNames := by
  refine F.ok scNames (fun vs H Q E h => ?_) (fun cdv A outer s H vs Q E hr h => ?_)
  · obtain ⟨t, N, E, rfl, _⟩ := h
    rfl
  · obtain ⟨t, N, E, rfl, hT, hN, q⟩ := h
    refine ⟨_, pss_one (ps_ret (pe_lc (own := [("name", 1), ("weight", 2)]) (g := gTup K 2 (gCons (gName 1) (gCons (gName 2) gNil))) (tt := tYes) rfl scNames.nd (pi_tup (pe_ix ix_tup (pv 0) pe_int (fun _ _ => rfl)))
      (blkOk_by (N := ["some_tree", "name", "weight"]) (sc := defScope sNames) (by decide +kernel))
      (fun _ _ _ _ _ => pg_tup rfl (pgs_cons (pg_name (i := 1) scNames.nd rfl (Or.inl rfl)) (pgs_cons (pg_name (i := 2) scNames.nd rfl (Or.inl rfl)) pgs_nil))) (fun _ _ _ _ _ => pts_nil) (fun _ _ _ _ _ => pv 1))), ?_⟩
    obtain ⟨a, n, e, ns, es, rfl, h1, h2, h3, h4, h5⟩ := hT
    refine ⟨_, rfl, a, _, 0, .ref n, rfl, rfl, SqT.of h1, at_of (j := 0) rfl rfl, n, rfl, ⟨ns, SqT.of h2⟩, fun D hD => ?_⟩
    refine lc_tup (K := K) (a := n) (xs := ns) (fun i H' => Same H H' ∧ H' D = some (.lst (((names N).take i).map V.str))) ⟨same_new hD, by rw [upd_same]; rfl⟩ (fun i H' _ p => SqT.of (p.1 _ _ h2)) (fun i x H' hi p => ?_) fun H' p => ?_
    · obtain ⟨⟨m, wt⟩, hN', b, rfl, hb⟩ := paired_at h4 hi
      obtain ⟨s1, hl⟩ := p
      have hm : (names N)[i]? = some m := by unfold names; rw [List.getElem?_map, hN']; rfl
      refine ⟨b, _, rfl, SqT.of (s1 _ _ hb), rfl, _, _, rfl, _, _, rfl, rfl, rfl, ?_⟩
      refine ⟨_, rfl, _, hl, ?_, same_own s1 hD, ?_⟩
      · rw [List.length_map, List.length_take]; have : (names N).length = N.length := List.length_map ..; rw [sizeLine_eq]; omega
      · rw [upd_same, List.take_add_one, hm]; simp
    · obtain ⟨s1, hl⟩ := p
      have e1 : ns.length = (names N).length := by rw [Paired.length h4]; exact (List.length_map ..).symm
      rw [e1, List.take_length] at hl
      exact q H' D s1 hD hl
end
end K59

set_option Elab.async false
set_option linter.all false
set_option maxRecDepth 100000
set_option maxHeartbeats 1000000
namespace K59
open PySem PySem.Spec PyProof.Rows L2
section
variable {P : Program} {w : World} {K : PySem.W.Frag} {mg : Str → Option Value} {base : Heap}
/-! ### neighbors -/
def spNeigh : Sp := fun vs H Q _ => ∃ (t : V) (v : Str) (N : List (Str × Int)) (E : List Ed'), vs = [t, .str v] ∧ TreeAt H t N E ∧ E.length ≤ 12 ∧
  ∀ H' p xs B, Same H H' → H p = none → H' p = some (.lst xs) → Paired (PairAt H') xs B → (∀ y l, (y, l) ∈ B ↔ Adj E v y l) → B.length ≤ 24 → Q (.ref p) H'
theorem ok_neigh {f : Addr} {fd : FuncData} (F : Fun K "neighbors" "neighbors" sNeigh f fd) (bl : Blt mg) : FnOk P w K mg base CX0 1 f fd ["some_tree", "name"] spNeigh := by
  refine F.ok scNeigh (fun vs H Q E h => ?_) (fun cdv A outer s H vs Q E hr h => ?_)
  · obtain ⟨t, v, N, E, rfl, _⟩ := h
    rfl
  · obtain ⟨t, v, N, E, rfl, hT, hE, q⟩ := h
    refine ⟨_, pss_cons (ps_set (i := 2) scNeigh.nd rfl (.inl rfl) (pe_lst pa_nil))
      (pss_cons (ps_for PassesOwn.never rfl (pi_tup (pe_ix ix_tup (pv 0) pe_int (fun _ _ => rfl)))
        (pg_tup rfl (pgs_cons (pg_name (i := 3) scNeigh.nd rfl (.inl rfl)) (pgs_cons (pg_name (i := 4) scNeigh.nd rfl (.inl rfl)) (pgs_cons (pg_name (i := 5) scNeigh.nd rfl (.inl rfl)) pgs_nil))))
        (pss_cons (ps_if (pt_cmpR op_eq (pv 3) (pv 1) (nomark _)) (pss_one (ps_expr (pe_bm PySem.F.plainAttrs_list PySem.F.slot_list_append PySem.F.type_list_append mt_append (pv 2) (pa_cons (pe_tup (pa_cons (pv 4) (pa_cons (pv 5) pa_nil))) pa_nil)))) pss_nil)
        (pss_one (ps_if (pt_cmpR op_eq (pv 4) (pv 1) (nomark _)) (pss_one (ps_expr (pe_bm PySem.F.plainAttrs_list PySem.F.slot_list_append PySem.F.type_list_append mt_append (pv 2) (pa_cons (pe_tup (pa_cons (pv 3) (pa_cons (pv 5) pa_nil))) pa_nil)))) pss_nil))))
      (pss_one (ps_ret (pe_callB (cr_sortedP hr.units) (by rfl) bl.sorted boot_sorted (pa_cons (pv 2) pa_nil))))), ?_⟩
    obtain ⟨a, n, e, ns, es, rfl, h1, h2, h3, h4, h5⟩ := hT
    refine ⟨Nat.zero_le _, fun o no => ?_⟩
    refine ⟨_, rfl, a, _, 1, .ref e, rfl, rfl, SqT.of ((same_new no) _ _ h1), at_of (j := 1) rfl rfl, e, rfl, ⟨es, SqT.of ((same_new no) _ _ h3)⟩, ?_⟩
    refine for_tup (K := K) (a := e) (xs := es) (fun i σ H' => ∃ x3 x4 x5 xs B, σ = [some (.ref a), some (.str v), some (.ref o), x3, x4, x5] ∧ Same H H' ∧ H' o = some (.lst xs) ∧ Paired (PairAt H') xs B ∧
      (∀ y l, (y, l) ∈ B ↔ Adj (E.take i) v y l) ∧ B.length ≤ 2 * i) ⟨none, none, none, [], [], rfl, same_new no, upd_same, .nil, fun y l => by simp [Adj], Nat.le_refl _⟩ (fun i σ H' _ p => ?_) (fun i x σ H' hi p => ?_) fun σ H' p => ?_
    · obtain ⟨_, _, _, _, _, _, s1, _⟩ := p
      exact SqT.of (s1 _ _ h3)
    · obtain ⟨x3, x4, x5, xs, B, rfl, s1, hl, hp, hB, hBl⟩ := p
      obtain ⟨⟨x, y, l⟩, hE', b, rfl, hb⟩ := paired_at h5 hi
      have i12 : i < 12 := by have := (List.getElem?_eq_some_iff.mp hE').1; omega
      have hlen := Paired.length hp
      have tk : E.take (i + 1) = E.take i ++ [(x, y, l)] := by rw [List.take_add_one, hE']; rfl
      refine ⟨b, _, rfl, SqT.of (s1 _ _ hb), rfl, _, _, rfl, _, _, rfl, _, _, rfl, rfl, ?_⟩
      refine ⟨_, rfl, _, rfl, rfl, _, rfl, ?_⟩
      refine ite2 (fun h => ?p1) (fun h => ?p2)
      case' p1 =>
        have e1 : x = v := str_dec.mp h
        refine ⟨_, rfl, .inl ⟨rfl, _, SqL.of hl⟩, _, rfl, _, rfl, le2, fun p hp0 => ⟨o, _, _, rfl, rfl, (upd_ne (ne_new hl hp0)).trans hl, small (by omega), ?_⟩⟩
        obtain ⟨xs2, B2, s2, hl2, hp2, hB2, hBl2⟩ : ∃ xs2 B2, Same H (upd (upd H' p (.tup [.str y, .int l])) o (.lst (xs ++ [.ref p]))) ∧ (upd (upd H' p (.tup [.str y, .int l])) o (.lst (xs ++ [.ref p]))) o = some (.lst xs2) ∧ Paired (PairAt (upd (upd H' p (.tup [.str y, .int l])) o (.lst (xs ++ [.ref p])))) xs2 B2 ∧
            (∀ y' l', (y', l') ∈ B2 ↔ (Adj (E.take i) v y' l' ∨ (v, y', l') = (x, y, l))) ∧ B2.length ≤ 2 * i + 1 :=
          ⟨_, _, same_own (s1.trans (same_new hp0)) no, upd_same, app_pair hl hp0 hp, fun y' l' => by rw [List.mem_append, List.mem_singleton, hB, e1]; simp, by rw [List.length_append, List.length_singleton]; omega⟩
        generalize upd (upd H' p (.tup [.str y, .int l])) o (.lst (xs ++ [.ref p])) = H2 at *
      case' p2 =>
        have e1 : ¬ x = v := fun z => h (str_dec.mpr z)
        obtain ⟨xs2, B2, s2, hl2, hp2, hB2, hBl2⟩ : ∃ xs2 B2, Same H H' ∧ H' o = some (.lst xs2) ∧ Paired (PairAt H') xs2 B2 ∧
            (∀ y' l', (y', l') ∈ B2 ↔ (Adj (E.take i) v y' l' ∨ (v, y', l') = (x, y, l))) ∧ B2.length ≤ 2 * i + 1 :=
          ⟨_, _, s1, hl, hp, fun y' l' => by rw [hB]; exact ⟨.inl, fun z => z.resolve_right fun c => e1 (Prod.mk.inj c).1.symm⟩, by omega⟩
        generalize H' = H2 at *
      all_goals
        have hlen2 := Paired.length hp2
        refine ⟨_, rfl, _, rfl, rfl, _, rfl, ?_⟩
        refine ite2 (fun h => ?_) (fun h => ?_)
        · have e2 : y = v := str_dec.mp h
          refine ⟨_, rfl, .inl ⟨rfl, _, SqL.of hl2⟩, _, rfl, _, rfl, le2, fun p hp0 => ⟨o, _, _, rfl, rfl, (upd_ne (ne_new hl2 hp0)).trans hl2, small (by omega), ?_⟩⟩
          refine ⟨_, _, _, _, _, rfl, same_own (s2.trans (same_new hp0)) no, upd_same, app_pair hl2 hp0 hp2, fun y' l' => ?_, by rw [List.length_append, List.length_singleton]; omega⟩
          rw [List.mem_append, List.mem_singleton, hB2, tk, adj_snoc, e2]
          simp [or_assoc]
        · have e2 : ¬ y = v := fun z => h (str_dec.mpr z)
          refine ⟨_, _, _, _, _, rfl, s2, hl2, hp2, fun y' l' => ?_, by omega⟩
          rw [hB2, tk, adj_snoc]
          exact ⟨fun z => z.imp id .inl, fun z => z.imp id fun c => c.resolve_right fun c => e2 (Prod.mk.inj (Prod.mk.inj c).2).1.symm⟩
    · obtain ⟨x3, x4, x5, xs, B, rfl, s1, hl, hp, hB, hBl⟩ := p
      refine ⟨_, rfl, o, xs, B, rfl, SqL.of hl, hp, fun xs' F' p hp' pm _ hn => ?_⟩
      have e12 : es.length = E.length := Paired.length h5
      refine q _ p xs' F' (s1.trans (same_new hn)) (s1.free hn) upd_same (pairs_stay hp' (tstay_new hn)) (fun y l => ?_) (by rw [pm.length_eq]; omega)
      rw [pm.mem_iff, hB, e12, List.take_length]
end
end K59

set_option Elab.async false
set_option linter.all false
set_option maxRecDepth 100000
set_option maxHeartbeats 1000000
namespace K59
open PySem PySem.Spec PyProof.Rows L2
/-! ### path -/
structure PSt (N : List (Str × Int)) (E : List Ed') (first : Str) (H0 : Hp) (d wq : Addr) (ks : List Str) (g : Str → V) (wl : List Str) (H' : Hp) : Prop where
  same : Same H0 H'
  hd : H' d = some (.dK (dV ks g))
  hw : H' wq = some (.lst (wl.map V.str))
  nd : ks.Nodup
  sub : ∀ k ∈ ks, k ∈ names N
  fst : first ∈ ks
  wsub : ∀ k ∈ wl, k ∈ ks
  wlen : wl.length ≤ ks.length
  way : ∀ k ∈ ks, ∃ a ws L, g k = .ref a ∧ H0 a = none ∧ a ≠ wq ∧ H' a = some (.lst (ws.map V.str)) ∧ Walk E ws L ∧ ws.Nodup ∧ ws.head? = some first ∧ ws.getLast? = some k ∧ ∀ x ∈ ws, x ∈ ks
theorem PSt.mono {N : List (Str × Int)} {E : List Ed'} {first : Str} {H0 : Hp} {d wq : Addr} {ks : List Str} {g : Str → V} {wl : List Str} {H' H2 : Hp} (S : PSt N E first H0 d wq ks g wl H') (s : Same H' H2) : PSt N E first H0 d wq ks g wl H2 :=
  ⟨S.same.trans s, s _ _ S.hd, s _ _ S.hw, S.nd, S.sub, S.fst, S.wsub, S.wlen, fun k hk => let ⟨a, ws, L, h1, h2, h3, h4, h5⟩ := S.way k hk; ⟨a, ws, L, h1, h2, h3, s _ _ h4, h5⟩⟩
theorem PSt.k12 {N : List (Str × Int)} {E : List Ed'} {first : Str} {H0 : Hp} {d wq : Addr} {ks : List Str} {g : Str → V} {wl : List Str} {H' : Hp} (S : PSt N E first H0 d wq ks g wl H') (h : N.length ≤ 12) : ks.length ≤ 12 := by
  have := List.Nodup.length_le_of_subset S.nd S.sub
  have e : (names N).length = N.length := List.length_map ..
  omega
theorem PSt.grow {N : List (Str × Int)} {E : List Ed'} {first : Str} {H0 : Hp} {d wq p : Addr} {ks : List Str} {g : Str → V} {wl ws : List Str} {H' H2 : Hp} {y nm : Str} {l L : Int} (S : PSt N E first H0 d wq ks g wl H') (hy : y ∉ ks) (hyN : y ∈ names N) (adj : Adj E nm y l)
    (W : Walk E ws L) (wn : ws.Nodup) (wh : ws.head? = some first) (wl' : ws.getLast? = some nm) (wsub : ∀ x ∈ ws, x ∈ ks) (same : Same H0 H2) (hd : H2 d = some (.dK (dV (ks ++ [y]) (put g y (.ref p)))))
    (hw : H2 wq = some (.lst ((wl ++ [y]).map V.str))) (np : H0 p = none) (npw : p ≠ wq) (hp : H2 p = some (.lst ((ws ++ [y]).map V.str))) (keep : ∀ b xs, b ≠ wq → H' b = some (.lst xs) → H2 b = some (.lst xs)) : PSt N E first H0 d wq (ks ++ [y]) (put g y (.ref p)) (wl ++ [y]) H2 := by
  refine ⟨same, hd, hw, ?_, fun k hk => ?_, List.mem_append_left _ S.fst, fun k hk => ?_, (by have := S.wlen; simp; exact this), fun k hk => ?_⟩
  · exact List.nodup_append.mpr ⟨S.nd, by simp, fun a ha b hb e => hy (by rw [List.mem_singleton.mp hb] at e; exact e ▸ ha)⟩
  · rcases List.mem_append.mp hk with h | h
    · exact S.sub k h
    · rw [List.mem_singleton.mp h]; exact hyN
  · rcases List.mem_append.mp hk with h | h
    · exact List.mem_append_left _ (S.wsub k h)
    · exact List.mem_append_right _ h
  · rcases List.mem_append.mp hk with h | h
    · obtain ⟨a, ws1, L1, h1, h2, h3, h4, h5, h6, h7, h8, h9⟩ := S.way k h
      exact ⟨a, ws1, L1, by rw [put_ne g _ fun (e : k = y) => hy (e ▸ h)]; exact h1, h2, h3, keep _ _ h3 h4, h5, h6, h7, h8, fun x hx => List.mem_append_left _ (h9 x hx)⟩
    · rw [List.mem_singleton.mp h]
      refine ⟨p, ws ++ [y], L + l, put_same _ _ _, np, npw, hp, walk_snoc W wl' adj, ?_, ?_, by simp, fun x hx => ?_⟩
      · exact List.nodup_append.mpr ⟨wn, by simp, fun a ha b hb e => hy (by rw [List.mem_singleton.mp hb] at e; exact e ▸ wsub a ha)⟩
      · rw [List.head?_append, wh]; rfl
      · rcases List.mem_append.mp hx with h | h
        · exact List.mem_append_left _ (wsub x h)
        · exact List.mem_append_right _ h
def pathInv (t : V) (first second : Str) (N : List (Str × Int)) (E : List Ed') (H0 : Hp) (d wq : Addr) (m : Nat) (σ' : L2.St) (H' : Hp) : Prop :=
  ∃ ks g wl x5 x6 x7, m = wl.length + (12 - ks.length) ∧ σ' = [some t, some (.str first), some (.str second), some (.ref d), some (.ref wq), x5, x6, x7] ∧ PSt N E first H0 d wq ks g wl H' ∧
    ∀ k ∈ ks, k ∉ wl → ∀ y l, Adj E k y l → y ∈ ks
def pathIn (t : V) (first second nm : Str) (N : List (Str × Int)) (E : List Ed') (H0 : Hp) (d wq p : Addr) (xs : List V) (B : List (Str × Int)) (μ : Nat) (i : Nat) (σ' : L2.St) (H' : Hp) : Prop :=
  ∃ ks g wl x6 x7, σ' = [some t, some (.str first), some (.str second), some (.ref d), some (.ref wq), some (.str nm), x6, x7] ∧ PSt N E first H0 d wq ks g wl H' ∧ H' p = some (.lst xs) ∧ Paired (PairAt H') xs B ∧ p ≠ wq ∧
    (∀ k ∈ ks, k ∉ wl → k ≠ nm → ∀ y l, Adj E k y l → y ∈ ks) ∧ (∀ j y l, j < i → B[j]? = some (y, l) → y ∈ ks) ∧ nm ∈ ks ∧ wl.length + (12 - ks.length) = μ
section
variable {P : Program} {w : World} {K : PySem.W.Frag} {mg : Str → Option Value} {base : Heap}
def spPath : Sp := fun vs H Q _ => ∃ (t : V) (a b : Str) (N : List (Str × Int)) (E : List Ed') (σ : Ed' → Str → Int), vs = [t, .str a, .str b] ∧ TreeAt H t N E ∧ Arb N E σ ∧ a ∈ names N ∧ b ∈ names N ∧
  ∀ H' p ws L, Same H H' → H p = none → H' p = some (.lst (ws.map V.str)) → Walk E ws L → ws.Nodup → ws.head? = some a → ws.getLast? = some b → (∀ x ∈ ws, x ∈ names N) → Q (.ref p) H'
theorem ok_path {f fN : Addr} {fd fdN : FuncData} (F : Fun K "path" "path" sPath f fd) (GN : FnOk P w K mg base CX0 1 fN fdN ["some_tree", "name"] spNeigh) (cN : Cal K mg "neighbors" fN fdN ["some_tree", "name"]) :
    FnOk P w K mg base CX0 2 f fd ["some_tree", "first", "second"] spPath := by
  refine F.ok scPath (fun vs H Q E h => ?_) (fun cdv A outer s H vs Q E hr h => ?_)
  · obtain ⟨t, a, b, N, E, σ, rfl, _⟩ := h
    rfl
  · obtain ⟨t, first, second, N, E, σ, rfl, hT, ar, ha, hb, q⟩ := h
    have hu := hu_of hr
    refine ⟨_, pss_cons (ps_set (i := 3) scPath.nd rfl (.inl rfl) (pe_disp (pps_cons (pv 1) (pe_lst (pa_cons (pv 1) pa_nil)) pps_nil) (by rfl) (by rfl) (fun z => by cases z) (by decide)))
      (pss_cons (ps_set (i := 4) scPath.nd rfl (.inl rfl) (pe_lst (pa_cons (pv 1) pa_nil)))
      (pss_cons (ps_while PassesOwn.never (pt_cmp (pc_dnotin hu (pv 2) (pv 3)))
        (pss_cons (ps_set (i := 5) scPath.nd rfl (.inl rfl) (pe_bm PySem.F.plainAttrs_list PySem.F.slot_list_pop PySem.F.type_list_pop mt_popAt (pv 4) (pa_cons pe_int pa_nil)))
        (pss_one (ps_for PassesOwn.never rfl (pi_list (pe_call GN hr (by rfl) cN.m cN.kp cN.b .nil pass0 (pa_cons (pv 0) (pa_cons (pv 5) pa_nil))))
          (pg_tup rfl (pgs_cons (pg_name (i := 6) scPath.nd rfl (.inl rfl)) (pgs_cons (pg_name (i := 7) scPath.nd rfl (.inl rfl)) pgs_nil)))
          (pss_one (ps_if (pt_cmp (pc_dnotin hu (pv 6) (pv 3)))
            (pss_cons (ps_dput hu (pv 3) (pv 6) (pe_op op_cat (pe_dget hu (pv 3) (pv 5) (fun _ _ => rfl)) (pe_lst (pa_cons (pv 6) pa_nil))) rfl)
            (pss_one (ps_expr (pe_bm PySem.F.plainAttrs_list PySem.F.slot_list_append PySem.F.type_list_append mt_append (pv 4) (pa_cons (pv 6) pa_nil))))) pss_nil))))))
      (pss_one (ps_ret (pe_dget hu (pv 3) (pv 2) (fun _ _ => rfl)))))), ?_⟩
    -- ways = {first: [first]}
    refine fun d nd => ⟨_, rfl, _, rfl, (by show 1 ≤ sizeLine; decide), fun l1 n1 => ⟨?_, [(Sum.inr first, .ref l1)], rfl, (by show 1 ≤ 15; decide), ?_⟩⟩
    · have z : d ≠ l1 := fun e => by rw [← e, upd_same] at n1; cases n1
      rw [upd_ne z, upd_same]
    have nd1 : d ≠ l1 := fun e => by rw [← e, upd_same] at n1; cases n1
    have n1' : H l1 = none := by rw [upd_ne nd1.symm] at n1; exact n1
    generalize hH1 : upd (upd (upd H d (.dK [])) l1 (.lst [.str first])) d (.dK (mergeK [] [(Sum.inr first, .ref l1)])) = H1
    have s1 : Same H H1 := by rw [← hH1]; exact same_own (same_own (same_new nd) n1') nd
    have e1 : H1 d = some (.dK (dV [first] fun _ => .ref l1)) := by rw [← hH1, upd_same]; rfl
    have e2 : H1 l1 = some (.lst ([first].map V.str)) := by rw [← hH1, upd_ne nd1.symm, upd_same]; rfl
    clear hH1 n1
    -- waiting = [first]
    refine ⟨_, rfl, (by show 1 ≤ sizeLine; decide), fun wq nw => ?_⟩
    have nw0 : H wq = none := s1.free nw
    have ndw : d ≠ wq := ne_new e1 nw
    have S0 : PSt N E first H d wq [first] (fun _ => .ref l1) [first] (upd H1 wq (.lst ([first].map V.str))) := by
      refine ⟨same_own s1 nw0, by rw [upd_ne ndw]; exact e1, upd_same, by simp, fun k hk => by rw [List.mem_singleton.mp hk]; exact ha, List.mem_cons_self, fun k hk => hk, Nat.le_refl _, fun k hk => ?_⟩
      rw [List.mem_singleton.mp hk]
      exact ⟨l1, [first], 0, rfl, n1', ne_new e2 nw, by rw [upd_ne (ne_new e2 nw)]; exact e2, .one _, by simp, rfl, rfl, fun x hx => hx⟩
    refine ⟨pathInv t first second N E H d wq, ⟨_, [first], _, [first], none, none, none, rfl, rfl, S0, fun k hk hn => absurd hk hn⟩, ?_⟩
    rintro m σ' H' ⟨ks, g, wl, x5, x6, x7, rfl, rfl, S, cl⟩
    have k12 := S.k12 ar.n12
    refine ⟨_, rfl, _, rfl, d, _, rfl, DGet.k (k := Sum.inr second) S.hd, _, rfl, ?_⟩
    rw [dV_isSome]
    refine ite2 (fun hns => ?_) (fun hs => ?_)
    · have hns : second ∉ ks := by simpa using hns
      -- some node waits
      cases wl with
      | nil => exact absurd (ar.G.conn (fun x => x ∈ ks) ⟨first, ha, S.fst⟩ (fun e he => ⟨fun h => cl _ h (by simp) _ _ (.inl he), fun h => cl _ h (by simp) _ _ (.inr he)⟩) second hb) hns
      | cons nm wl =>
      have hnm : nm ∈ ks := S.wsub nm List.mem_cons_self
      refine ⟨_, fun σ' H' hN => hN, ?_⟩
      -- name = waiting.pop(0)
      refine ⟨_, rfl, .inl ⟨rfl, _, SqL.of S.hw⟩, wq, _, 0, 0, .str nm, rfl, rfl, S.hw, by decide, by decide, seq0 (by simp), rfl, ?_⟩
      have S1 : PSt N E first H d wq ks g wl (upd H' wq (.lst ((List.map V.str (nm :: wl)).eraseIdx 0))) := by
        refine ⟨same_own S.same nw0, by rw [upd_ne ndw]; exact S.hd, upd_same, S.nd, S.sub, S.fst, fun k hk => S.wsub k (List.mem_cons_of_mem _ hk), Nat.le_of_succ_le S.wlen, fun k hk => ?_⟩
        obtain ⟨a, ws, L, h1, h2, h3, h4, h5⟩ := S.way k hk
        exact ⟨a, ws, L, h1, h2, h3, by rw [upd_ne h3]; exact h4, h5⟩
      generalize upd H' wq (.lst ((List.map V.str (nm :: wl)).eraseIdx 0)) = H1' at S1 ⊢
      -- neighbors(some_tree, name)
      refine ⟨_, rfl, _, rfl, t, nm, N, E, rfl, hT.stay (same_tstay S1.same), ar.e12, fun H2 p xs B s2 np hp0 pr hB hBl => ⟨p, rfl, ⟨xs, SqL.of hp0⟩, ?_⟩⟩
      have S2 := S1.mono s2
      have npw : p ≠ wq := fun e => by rw [e, S1.hw] at np; cases np
      refine for_list (K := K) (a := p) (xs := xs) (pathIn t first second nm N E H d wq p xs B (wl.length + (12 - ks.length))) ⟨ks, g, wl, _, _, rfl, S2, hp0, pr, npw, fun k hk hn hne => cl k hk (by simp [hn, hne]), fun j y l hj => by omega, hnm, rfl⟩
        (fun i σ H' _ p' => ?_) (fun i x σ' H3 hi p' => ?_) fun σ' H3 p' => ?_
      · obtain ⟨_, _, _, _, _, _, _, h, _⟩ := p'
        exact SqL.of h
      · obtain ⟨ks3, g3, wl3, x6, x7, rfl, S3, hp3, pr3, npw3, cl3, dn3, hnm3, hm3⟩ := p'
        obtain ⟨⟨y, l⟩, hyB, bb, rfl, hbb⟩ := paired_at pr3 hi
        have hadj : Adj E nm y l := (hB y l).mp (List.mem_of_getElem? hyB)
        have k12' := S3.k12 ar.n12
        refine ⟨bb, _, rfl, SqT.of hbb, rfl, _, _, rfl, _, _, rfl, rfl, _, rfl, _, rfl, d, _, rfl, DGet.k (k := Sum.inr y) S3.hd, _, rfl, ?_⟩
        rw [dV_isSome]
        refine ite2 (fun hny => ?_) (fun hyk => ?_)
        · have hny : y ∉ ks3 := by simpa using hny
          obtain ⟨a, ws, L, h1, h2, h3, h4, h5, h6, h7, h8, h9⟩ := S3.way nm hnm3
          have hws : ws.length ≤ 12 := Nat.le_trans (List.Nodup.length_le_of_subset h6 h9) k12'
          have hyN : y ∈ names N := (ar.G.adj_mem hadj).2
          refine ⟨_, rfl, _, rfl, d, _, rfl, (by have := DGet.k (k := Sum.inr nm) S3.hd; rw [dV_get hnm3, h1] at this; exact this), _, rfl, (by show 1 ≤ sizeLine; decide), fun l2 n2 => ⟨a, l2, _, _, rfl, rfl, (upd_ne (ne_new h4 n2)).trans h4, upd_same, ?_, fun p2 n3 => ?_⟩⟩
          · rw [List.length_map]
            exact Nat.le_of_lt (small (by simp; omega))
          have n2' : H l2 = none := S3.same.free n2
          have np2 : p2 ≠ l2 := fun e => by rw [e, upd_same] at n3; cases n3
          have n3' : H3 p2 = none := by rw [upd_ne np2] at n3; exact n3
          have ndl : d ≠ l2 := ne_new S3.hd n2
          have ndp : d ≠ p2 := ne_new S3.hd n3'
          have nwl : wq ≠ l2 := ne_new S3.hw n2
          have nwp : wq ≠ p2 := ne_new S3.hw n3'
          have dsz : (dV ks3 g3).length < sizeLine := by rw [dV_length]; exact small (by omega)
          refine ⟨_, rfl, _, rfl, d, _, rfl, DPut.k (k := Sum.inr y) ((upd_ne ndp).trans ((upd_ne ndl).trans S3.hd)) dsz, ?_⟩
          rw [dV_new hny]
          have hwq : (upd (upd (upd H3 l2 (.lst [V.str y])) p2 (.lst (List.map V.str ws ++ [V.str y]))) d (.dK (dV (ks3 ++ [y]) (put g3 y (.ref p2))))) wq = some (.lst (wl3.map V.str)) := by
            rw [upd_ne ndw.symm, upd_ne nwp, upd_ne nwl]; exact S3.hw
          have wsz : (wl3.map V.str).length < sizeLine := by rw [List.length_map]; have := S3.wlen; exact small (by omega)
          refine ⟨_, rfl, .inl ⟨rfl, _, SqL.of hwq⟩, _, rfl, wq, _, _, rfl, rfl, hwq, wsz, ?_⟩
          have keep : ∀ b o, b ≠ d → b ≠ wq → H3 b = some o → (upd (upd (upd (upd H3 l2 (.lst [V.str y])) p2 (.lst (List.map V.str ws ++ [V.str y]))) d (.dK (dV (ks3 ++ [y]) (put g3 y (.ref p2))))) wq (.lst (wl3.map V.str ++ [V.str y]))) b = some o := fun b o hb1 hb2 hbo => by
            rw [upd_ne hb2, upd_ne hb1, upd_ne (ne_new hbo n3'), upd_ne (ne_new hbo n2)]; exact hbo
          have same4 : Same H (upd (upd (upd (upd H3 l2 (.lst [V.str y])) p2 (.lst (List.map V.str ws ++ [V.str y]))) d (.dK (dV (ks3 ++ [y]) (put g3 y (.ref p2))))) wq (.lst (wl3.map V.str ++ [V.str y]))) :=
            same_own (same_own (same_own (same_own S3.same n2') (S3.same.free n3')) nd) nw0
          have S4 := S3.grow (p := p2) (H2 := upd (upd (upd (upd H3 l2 (.lst [V.str y])) p2 (.lst (List.map V.str ws ++ [V.str y]))) d (.dK (dV (ks3 ++ [y]) (put g3 y (.ref p2))))) wq (.lst (wl3.map V.str ++ [V.str y]))) hny hyN hadj h5 h6 h7 h8 h9 same4
            (by rw [upd_ne ndw, upd_same]) (by rw [upd_same, List.map_append]; rfl) (S3.same.free n3') nwp.symm (by rw [upd_ne nwp.symm, upd_ne ndp.symm, upd_same, List.map_append]; rfl)
            (fun b xs hb hx => keep b _ (fun e => by rw [e, S3.hd] at hx; cases hx) hb hx)
          have k12'' := S4.k12 ar.n12
          refine ⟨_, _, _, _, _, rfl, S4, keep _ _ (fun e => by rw [e, S3.hd] at hp3; cases hp3) npw3 hp3, ?_, npw3, fun k hk hn hne y' l' ha' => ?_, fun j y' l' hj hjB => ?_, List.mem_append_left _ hnm3, ?_⟩
          · refine pr3.mono fun v q => ?_
            rintro ⟨a', e', h'⟩
            exact ⟨a', e', keep _ _ (fun e => by rw [e, S3.hd] at h'; cases h') (fun e => by rw [e, S3.hw] at h'; cases h') h'⟩
          · rcases List.mem_append.mp hk with h | h
            · exact List.mem_append_left _ (cl3 k h (fun z => hn (List.mem_append_left _ z)) hne y' l' ha')
            · exact absurd (List.mem_append_right _ h) hn
          · by_cases e : j = i
            · subst e
              rw [hyB] at hjB
              cases hjB
              exact List.mem_append_right _ List.mem_cons_self
            · exact List.mem_append_left _ (dn3 j y' l' (by omega) hjB)
          · rw [List.length_append, List.length_append, List.length_singleton]
            rw [List.length_append, List.length_singleton] at k12''
            omega
        · have hyk : y ∈ ks3 := by simpa using hyk
          refine ⟨_, _, _, _, _, rfl, S3, hp3, pr3, npw3, cl3, fun j y' l' hj hjB => ?_, hnm3, hm3⟩
          by_cases e : j = i
          · subst e
            rw [hyB] at hjB
            cases hjB
            exact hyk
          · exact dn3 j y' l' (by omega) hjB
      · obtain ⟨ks3, g3, wl3, x6, x7, rfl, S3, hp3, pr3, npw3, cl3, dn3, hnm3, hm3⟩ := p'
        refine ⟨_, ?_, ks3, g3, wl3, _, _, _, rfl, rfl, S3, fun k hk hn y l hal => ?_⟩
        · rw [hm3, List.length_cons]; omega
        · by_cases e : k = nm
          · rw [e] at hal
            obtain ⟨j, hj⟩ := List.getElem?_of_mem ((hB y l).mpr hal)
            have := (List.getElem?_eq_some_iff.mp hj).1
            exact dn3 j y l (by rw [Paired.length pr3]; exact this) hj
          · exact cl3 k hk hn e y l hal
    · have hs : second ∈ ks := by simpa using hs
      obtain ⟨a, ws, L, h1, h2, h3, h4, h5, h6, h7, h8, h9⟩ := S.way second hs
      refine ⟨_, rfl, _, rfl, d, _, rfl, by have := DGet.k (k := Sum.inr second) S.hd; rw [dV_get hs, h1] at this; exact this, ?_⟩
      exact q H' a ws L S.same h2 h4 h5 h6 h7 h8 fun x hx => S.sub x (h9 x hx)
end
end K59

set_option Elab.async false
set_option linter.all false
set_option maxRecDepth 100000
set_option maxHeartbeats 1000000
namespace K59
open PySem PySem.Spec PyProof.Rows L2
section
variable {P : Program} {w : World} {K : PySem.W.Frag} {mg : Str → Option Value} {base : Heap}
/-! ### length_between -/
def spLenB : Sp := fun vs H Q _ => ∃ (t : V) (a b : Str) (l : Int) (N : List (Str × Int)) (E : List Ed') (σ : Ed' → Str → Int), vs = [t, .str a, .str b] ∧ TreeAt H t N E ∧ Arb N E σ ∧ Adj E a b l ∧
  ∀ H', Same H H' → Q (.int l) H'
theorem ok_lenB {f fN : Addr} {fd fdN : FuncData} (F : Fun K "length_between" "length_between" sLenB f fd) (GN : FnOk P w K mg base CX0 1 fN fdN ["some_tree", "name"] spNeigh) (cN : Cal K mg "neighbors" fN fdN ["some_tree", "name"]) :
    FnOk P w K mg base CX0 2 f fd ["some_tree", "first", "second"] spLenB := by
  refine F.ok scLenB (fun vs H Q E h => ?_) (fun cdv A outer s H vs Q E hr h => ?_)
  · obtain ⟨t, a, b, l, N, E, σ, rfl, _⟩ := h
    rfl
  · obtain ⟨t, a, b, l, N, E, σ, rfl, hT, ar, adj, q⟩ := h
    refine ⟨_, pss_one (ps_ret (pe_ix ix_list (pe_lc (own := [("name", 3), ("length", 4)]) (g := gTup K 2 (gCons (gName 3) (gCons (gName 4) gNil))) (tt := tTest (tOp rEq (tVar 3) (tVar 2))) rfl scLenB.nd
      (pi_list (pe_call GN hr (by rfl) cN.m cN.kp cN.b .nil pass0 (pa_cons (pv 0) (pa_cons (pv 1) pa_nil))))
      (blkOk_by (N := ["some_tree", "first", "second", "name", "length"]) (sc := defScope sLenB) (by decide +kernel))
      (fun _ _ _ _ _ => pg_tup rfl (pgs_cons (pg_name (i := 3) scLenB.nd rfl (Or.inl rfl)) (pgs_cons (pg_name (i := 4) scLenB.nd rfl (Or.inl rfl)) pgs_nil))) (fun _ _ _ _ _ => pts_one (pt_cmpR op_eq (pv 3) (pv 2) (nomark _))) (fun _ _ _ _ _ => pv 4)) pe_int (fun _ _ => rfl))), ?_⟩
    refine ⟨_, rfl, _, rfl, t, a, N, E, rfl, hT, ar.e12, fun H2 p xs B s2 np hp0 pr hB hBl => ⟨p, rfl, ⟨xs, SqL.of hp0⟩, fun D hD => ?_⟩⟩
    refine lc_list (K := K) (a := p) (xs := xs) (fun i H' => Same H2 H' ∧ ∃ k, H' D = some (.lst (List.replicate k (V.int l))) ∧ k ≤ i ∧ ∀ j l', j < i → B[j]? = some (b, l') → 0 < k) ⟨same_new hD, 0, by rw [upd_same]; rfl, Nat.le_refl _, fun j l' hj => by omega⟩
      (fun i H' _ p' => SqL.of (p'.1 _ _ hp0)) (fun i x H' hi p' => ?_) fun H' p' => ?_
    · obtain ⟨s3, k, hk, hki, hz⟩ := p'
      obtain ⟨⟨y, l'⟩, hyB, bb, rfl, hbb⟩ := paired_at pr hi
      have i24 : i < 24 := by have := (List.getElem?_eq_some_iff.mp hyB).1; omega
      refine ⟨bb, _, rfl, SqT.of (s3 _ _ hbb), rfl, _, _, rfl, _, _, rfl, rfl, rfl, _, rfl, _, rfl, rfl, _, rfl, ?_⟩
      refine ite2 (fun h => ?_) (fun h => ?_)
      · have e := str_dec.mp h
        have e : y = b := e
        subst e
        have el : l' = l := ar.G.adj_len ((hB y l').mp (List.mem_of_getElem? hyB)) adj
        subst el
        refine ⟨_, rfl, _, hk, small (by rw [List.length_replicate]; omega), same_own s3 hD, k + 1, ?_, by omega, fun _ _ _ _ => by omega⟩
        rw [upd_same, List.replicate_succ']
      · have e : ¬ y = b := fun z => h (str_dec.mpr z)
        refine ⟨s3, k, hk, by omega, fun j l2 hj hjB => ?_⟩
        by_cases ej : j = i
        · subst ej
          rw [hyB] at hjB
          cases hjB
          exact absurd rfl e
        · exact hz j l2 (by omega) hjB
    · obtain ⟨s3, k, hk, _, hz⟩ := p'
      obtain ⟨j, hj⟩ := List.getElem?_of_mem ((hB b l).mpr adj)
      have k0 : 0 < k := hz j l (by have := (List.getElem?_eq_some_iff.mp hj).1; rw [Paired.length pr]; exact this) hj
      obtain ⟨k', rfl⟩ : ∃ k', k = k' + 1 := ⟨k - 1, by omega⟩
      exact ⟨D, _, 0, .int l, rfl, rfl, SqL.of hk, at_of (j := 0) rfl rfl, q H' (s2.trans s3)⟩
/-! ### distance -/
def spDist : Sp := fun vs H Q _ => ∃ (t : V) (a b : Str) (N : List (Str × Int)) (E : List Ed') (σ : Ed' → Str → Int), vs = [t, .str a, .str b] ∧ TreeAt H t N E ∧ Arb N E σ ∧ a ∈ names N ∧ b ∈ names N ∧
  ∀ H', Same H H' → Q (.int (dist E σ a b)) H'
theorem ok_dist {f fP fL : Addr} {fd fdP fdL : FuncData} (F : Fun K "distance" "distance" sDist f fd) (bl : Blt mg) (GP : FnOk P w K mg base CX0 2 fP fdP ["some_tree", "first", "second"] spPath) (cP : Cal K mg "path" fP fdP ["some_tree", "first", "second"])
    (GL : FnOk P w K mg base CX0 2 fL fdL ["some_tree", "first", "second"] spLenB) (cL : Cal K mg "length_between" fL fdL ["some_tree", "first", "second"]) : FnOk P w K mg base CX0 3 f fd ["some_tree", "first", "second"] spDist := by
  refine F.ok scDist (fun vs H Q E h => ?_) (fun cdv A outer s H vs Q E hr h => ?_)
  · obtain ⟨t, a, b, N, E, σ, rfl, _⟩ := h
    rfl
  · obtain ⟨t, a, b, N, E, σ, rfl, hT, ar, ha, hb, q⟩ := h
    refine ⟨_, pss_cons (ps_set (i := 3) scDist.nd rfl (.inr rfl) (pe_call GP hr (by rfl) cP.m cP.kp cP.b .nil pass0 (pa_cons (pv 0) (pa_cons (pv 1) (pa_cons (pv 2) pa_nil)))))
      (pss_one (ps_ret (pe_callB (cr_sum rfl) (by rfl) bl.sum boot_sum (pa_cons (pe_lc (own := [("k", 4)]) (g := gName 4) (tt := tYes) rfl scDist.nd
        (pi_range1 (by rfl) bl.range (pa_cons (pe_op op_sub (pe_callB call_len_seq (by rfl) bl.len boot_len (pa_cons (pv 3) pa_nil)) pe_int) pa_nil))
        (blkOk_by (N := ["some_tree", "first", "second", "way", "k"]) (sc := defScope sDist) (by decide +kernel))
        (fun _ _ _ _ _ => pg_name (i := 4) scDist.nd rfl (Or.inl rfl)) (fun _ _ _ _ _ => pts_nil)
        (fun _ _ _ _ _ => pe_call GL hr (by rfl) cL.m cL.kp cL.b .nil pass0 (pa_cons (pv 0) (pa_cons (pe_ix (ix_listK (K := K) rfl) (pv 3) (pv 4) (fun _ _ => rfl)) (pa_cons (pe_ix (ix_listK (K := K) rfl) (pv 3) (pe_op op_add (pv 4) pe_int) (fun _ _ => rfl)) pa_nil))))) pa_nil)))), ?_⟩
    refine ⟨_, rfl, _, rfl, _, rfl, t, a, b, N, E, σ, rfl, hT, ar, ha, hb, fun H1 p ws L s1 np hp W wn wh wl wsub => ?_⟩
    have w12 : ws.length ≤ 12 := by
      have := List.Nodup.length_le_of_subset wn wsub
      have e : (names N).length = N.length := List.length_map ..
      have := ar.n12
      omega
    have w1 : ws ≠ [] := walk_ne W
    have w1' : 1 ≤ ws.length := by cases ws with | nil => exact absurd rfl w1 | cons _ _ => simp
    have hL : L = dist E σ a b := ar.G.walk_len W wn wh wl
    obtain ⟨ls, l1, l2, l3⟩ := walk_lens W
    refine ⟨_, rfl, p, _, rfl, .inl (SqL.of hp), _, _, rfl, rfl, _, rfl, ?_, ?_, fun D hD => ?_⟩
    · rw [List.length_map]; omega
    · rw [List.length_map]; omega
    have ej : ((List.map V.str ws).length : Int) - 1 = ((ws.length - 1 : Nat) : Int) := by rw [List.length_map]; omega
    rw [ej, Int.toNat_natCast]
    refine lc_range (lo := 0) (n := ws.length - 1) (fun i H' => Same H1 H' ∧ H' D = some (.lst ((ls.take i).map V.int))) ⟨same_new hD, by rw [upd_same]; rfl⟩ (fun i H' hi p' => ?_) fun H' p' => ?_
    · obtain ⟨s2, hl⟩ := p'
      obtain ⟨l, hli⟩ : ∃ l, ls[i]? = some l := ⟨_, List.getElem?_eq_getElem (by omega)⟩
      obtain ⟨x, y, hx, hy, hadj⟩ := l3 i l hli
      have sp : H' p = some (.lst (ws.map V.str)) := s2 _ _ hp
      refine ⟨rfl, _, rfl, _, rfl, _, rfl, p, _, _, .str x, rfl, rfl, SqL.of sp, at_of (j := i) (by omega) (by rw [List.getElem?_map, hx]; rfl), _, rfl, _, rfl, _, _, rfl, rfl, p, _, _, .str y, rfl, rfl, SqL.of sp, at_of (j := i + 1) (by omega) (by rw [List.getElem?_map, hy]; rfl), ?_⟩
      refine ⟨t, x, y, l, N, E, σ, rfl, hT.stay (same_tstay (s1.trans s2)), ar, hadj, fun H3 s3 => ?_⟩
      refine ⟨_, s3 _ _ hl, small (by rw [List.length_map, List.length_take]; omega), same_own (s2.trans s3) hD, ?_⟩
      rw [upd_same, List.take_add_one, hli]; simp
    · obtain ⟨s2, hl⟩ := p'
      rw [← l2, List.take_length] at hl
      refine ⟨D, ls, rfl, SqL.of hl, ?_⟩
      rw [l1, hL]
      exact q H' (s1.trans s2)
/-! ### sides -/
def spSides : Sp := fun vs H Q _ => ∃ (t : V) (e : Ed') (N : List (Str × Int)) (E : List Ed') (σ : Ed' → Str → Int), vs = [t, .str e.1, .str e.2.1] ∧ TreeAt H t N E ∧ Arb N E σ ∧ e ∈ E ∧
  ∀ H' p a b, Same H H' → H p = none → H' p = some (.tup [.ref a, b]) → H' a = some (.lst (((names N).filter fun x => decide (σ e x = 1)).map V.str)) → Q (.ref p) H'
theorem ok_sides {f fP fN : Addr} {fd fdP fdN : FuncData} (F : Fun K "sides" "sides" sSides f fd) (GP : FnOk P w K mg base CX0 2 fP fdP ["some_tree", "first", "second"] spPath) (cP : Cal K mg "path" fP fdP ["some_tree", "first", "second"])
    (GN : FnOk P w K mg base CX0 1 fN fdN ["some_tree"] spNames) (cN : Cal K mg "names_of" fN fdN ["some_tree"]) : FnOk P w K mg base CX0 3 f fd ["some_tree", "first", "second"] spSides := by
  refine F.ok scSides (fun vs H Q E h => ?_) (fun cdv A outer s H vs Q E hr h => ?_)
  · obtain ⟨t, e, N, E, σ, rfl, _⟩ := h
    rfl
  · obtain ⟨t, e, N, E, σ, rfl, hT, ar, he, q⟩ := h
    have hr1 : Room 1 _ := hr.mono (by decide)
    refine ⟨_, pss_cons (ps_set (i := 3) scSides.nd rfl (.inr rfl) (pe_lc (own := [("name", 4)]) (g := gName 4) (tt := tTest (tOp (rIn K true) (tVar 2) (tCall spPath [] E0 (tCons (tVar 0) (tCons (tVar 1) (tCons (tVar 4) tNil)))))) rfl scSides.nd
        (pi_list (pe_call GN hr1 (by rfl) cN.m cN.kp cN.b .nil pass0 (pa_cons (pv 0) pa_nil))) (blkOk_by (N := ["some_tree", "first", "second", "near", "name"]) (sc := defScope sSides) (by decide +kernel))
        (fun _ _ _ _ _ => pg_name (i := 4) scSides.nd rfl (Or.inl rfl)) (fun _ _ _ _ _ => pts_one (pt_cmpR (op_notInK (K := K) rfl) (pv 2) (pe_call GP hr (by rfl) cP.m cP.kp cP.b .nil pass0 (pa_cons (pv 0) (pa_cons (pv 1) (pa_cons (pv 4) pa_nil)))) (by rfl))) (fun _ _ _ _ _ => pv 4)))
      (pss_one (ps_ret (pe_tup (pa_cons (pv 3) (pa_cons (pe_lc (own := [("name", 4)]) (g := gName 4) (tt := tTest (tOp (rIn K true) (tVar 4) (tVar 3))) rfl scSides.nd
        (pi_list (pe_call GN hr1 (by rfl) cN.m cN.kp cN.b .nil pass0 (pa_cons (pv 0) pa_nil))) (blkOk_by (N := ["some_tree", "first", "second", "near", "name"]) (sc := defScope sSides) (by decide +kernel))
        (fun _ _ _ _ _ => pg_name (i := 4) scSides.nd rfl (Or.inl rfl)) (fun _ _ _ _ _ => pts_one (pt_cmpR (op_notInK (K := K) rfl) (pv 4) (pv 3) (by rfl))) (fun _ _ _ _ _ => pv 4)) pa_nil))))), ?_⟩
    have nlen : (names N).length ≤ 12 := by have e : (names N).length = N.length := List.length_map ..; have := ar.n12; omega
    refine ⟨_, rfl, t, N, E, rfl, hT, ar.n12, fun H1 p1 s1 n1 h1 => ⟨p1, rfl, ⟨_, SqL.of h1⟩, fun D nD => ?_⟩⟩
    refine lc_list (K := K) (a := p1) (xs := (names N).map V.str) (fun i H' => Same H1 H' ∧ H' D = some (.lst ((((names N).take i).filter fun x => decide (σ e x = 1)).map V.str))) ⟨same_new nD, by rw [upd_same]; rfl⟩ (fun i H' _ p' => SqL.of (p'.1 _ _ h1)) (fun i x H' hi p' => ?_) fun H2 p' => ?_
    · obtain ⟨s2, hl⟩ := p'
      obtain ⟨nm, hnm, rfl⟩ : ∃ nm, (names N)[i]? = some nm ∧ V.str nm = x := by
        rw [List.getElem?_map] at hi
        cases en : (names N)[i]? with
        | none => rw [en] at hi; cases hi
        | some nm => rw [en] at hi; exact ⟨nm, rfl, Option.some.inj hi⟩
      refine ⟨rfl, _, rfl, _, rfl, _, rfl, _, rfl, t, e.1, nm, N, E, σ, rfl, hT.stay (same_tstay (s1.trans s2)), ar, (ar.G.mem e he).1, List.mem_of_getElem? hnm, fun H3 p3 ws L s3 n3 h3 W wn wh wl wsub => ?_⟩
      refine ⟨p3, _, rfl, .inl (SqL.of h3), rfl, flat_strs ws, _, rfl, ?_⟩
      have sd := ar.G.side W wn he wh wl
      have fl : H3 D = some (.lst ((((names N).take i).filter fun x => decide (σ e x = 1)).map V.str)) := s3 _ _ hl
      have tk : (names N).take (i + 1) = (names N).take i ++ [nm] := by rw [List.take_add_one, hnm]; rfl
      refine ite2 (fun h => ?_) (fun h => ?_)
      · have h' : e.2.1 ∉ ws := by have h := h; simp only [inV_str, if_true] at h; simpa using h
        have c := sd.mp h'
        refine ⟨_, rfl, _, fl, small ?_, same_own (s2.trans s3) nD, ?_⟩
        · rw [List.length_map]
          have := List.length_filter_le (fun x => decide (σ e x = 1)) ((names N).take i)
          rw [List.length_take] at this
          omega
        · rw [upd_same, tk, List.filter_append, List.filter_cons, if_pos (by simp [c]), List.map_append]; rfl
      · have h' : ¬ e.2.1 ∉ ws := by have h := h; simp only [inV_str, if_true] at h; simpa using h
        have c : ¬ σ e nm = 1 := fun z => h' (sd.mpr z)
        refine ⟨s2.trans s3, ?_⟩
        rw [tk, List.filter_append, List.filter_cons, if_neg (by simp [c])]
        simpa using fl
    · obtain ⟨s2, hl⟩ := p'
      rw [List.length_map, List.take_length] at hl
      have sA := s1.trans s2
      refine ⟨_, rfl, _, rfl, t, N, E, rfl, hT.stay (same_tstay sA), ar.n12, fun H3 p3 s3 n3 h3 => ⟨p3, rfl, ⟨_, SqL.of h3⟩, fun D2 nD2 => ?_⟩⟩
      have hl3 := s3 _ _ hl
      refine lc_list (K := K) (a := p3) (xs := (names N).map V.str) (fun i H' => Same H3 H' ∧ ∃ acc, H' D2 = some (.lst acc) ∧ acc.length ≤ i) ⟨same_new nD2, [], upd_same, Nat.le_refl _⟩ (fun i H' _ p' => SqL.of (p'.1 _ _ h3)) (fun i x H' hi p' => ?_) fun H4 p' => ?_
      · obtain ⟨s4, acc, ha, hb⟩ := p'
        obtain ⟨nm, hnm, rfl⟩ : ∃ nm, (names N)[i]? = some nm ∧ V.str nm = x := by
          rw [List.getElem?_map] at hi
          cases en : (names N)[i]? with
          | none => rw [en] at hi; cases hi
          | some nm => rw [en] at hi; exact ⟨nm, rfl, Option.some.inj hi⟩
        have i12 : i < 12 := by have := (List.getElem?_eq_some_iff.mp hnm).1; omega
        refine ⟨rfl, _, rfl, _, rfl, D, _, rfl, .inl (SqL.of (s4 _ _ hl3)), rfl, flat_strs _, _, rfl, ?_⟩
        refine ite2 (fun _ => ?_) (fun _ => ?_)
        · exact ⟨_, rfl, _, ha, small (by omega), same_own s4 nD2, _, upd_same, by rw [List.length_append, List.length_singleton]; omega⟩
        · exact ⟨s4, acc, ha, by omega⟩
      · obtain ⟨s4, acc, ha, hb⟩ := p'
        refine ⟨le2, fun p5 n5 => q _ p5 D _ ((sA.trans s3).trans (s4.trans (same_new n5))) ((sA.trans s3).free (s4.free n5)) upd_same ?_⟩
        rw [upd_ne (ne_new (s4 _ _ hl3) n5)]
        exact s4 _ _ hl3
end
end K59

set_option Elab.async false
set_option linter.all false
set_option maxRecDepth 100000
set_option maxHeartbeats 1000000
namespace K59
open PySem PySem.Spec PyProof.Rows L2
/-! ### two loads on a tree -/
structure LdOk (N : List (Str × Int)) (F S : List (Str × Int)) : Prop where
  f : ∀ q ∈ F, q.1 ∈ names N
  s : ∀ q ∈ S, q.1 ∈ names N
  eq : sm F (fun q => q.2) = sm S fun q => q.2
  fl : F.length ≤ 100
  sl : S.length ≤ 100
  fb : ∀ q ∈ F, 0 ≤ q.2 ∧ q.2 ≤ 999
  sb : ∀ q ∈ S, 0 ≤ q.2 ∧ q.2 ≤ 999
/-- how much more the first load has -/
def mo (F S : List (Str × Int)) (v : Str) : Int := val F v - val S v
theorem LdOk.swap {N F S : List (Str × Int)} (h : LdOk N F S) : LdOk N S F := ⟨h.s, h.f, h.eq.symm, h.sl, h.fl, h.sb, h.fb⟩
theorem LdOk.zero {N F S : List (Str × Int)} (h : LdOk N F S) (nd : (names N).Nodup) : sm (names N) (mo F S) = 0 := by
  have := sm_sub (names N) (val F) (val S)
  rw [sm_val1 nd h.f, sm_val1 nd h.s, h.eq] at this
  rw [show sm (names N) (mo F S) = sm (names N) fun x => val F x - val S x from rfl, this]; omega
theorem val_take {F : List (Str × Int)} {i : Nat} {q : Str × Int} (h : F[i]? = some q) (x : Str) : val (F.take (i + 1)) x = put (val (F.take i)) q.1 (val (F.take i) q.1 + q.2) x := by
  have : F.take (i + 1) = F.take i ++ [q] := by rw [List.take_add_one, h]; rfl
  rw [this, val_append, val_cons]
  unfold put
  by_cases e : x = q.1
  · rw [if_pos e, if_pos e.symm, e]; simp [val, sm_nil]
  · rw [if_neg e, if_neg fun z => e z.symm]; simp [val, sm_nil]
/-- [number for name, number in load] -/
theorem rd_snd {K : PySem.W.Frag} {i a b : Nat} {σ : L2.St} {H : Hp} {Q : VK} {v : V} {F : List (Str × Int)} (hv : σ[i]? = some (some v)) (hl : LoadAt H v F) (hF : F.length ≤ 100)
    (hw : ∀ x y, wipe (((wipe σ [a, b]).set a x).set b y) [a, b] = wipe σ [a, b]) (hb : ∀ x y, (((wipe σ [a, b]).set a x).set b y)[b]? = some y)
    (q : ∀ H' D, Same H H' → H D = none → H' D = some (.lst ((F.map (·.2)).map V.int)) → Q (.ref D) H') :
    tLc (iList K (tVar i)) (gTup K 2 (gCons (gName a) (gCons (gName b) gNil))) tYes (tVar b) [a, b] σ H Q := by
  obtain ⟨l, xs, rfl, hL, hp⟩ := hl
  refine ⟨_, hv, l, rfl, ⟨xs, SqL.of hL⟩, fun D hD => ?_⟩
  refine lc_list (K := K) (a := l) (xs := xs) (fun i H' => Same H H' ∧ H' D = some (.lst (((F.take i).map (·.2)).map V.int))) ⟨same_new hD, by rw [upd_same]; rfl⟩ (fun i H' _ p => SqL.of (p.1 _ _ hL)) (fun i x H' hi p => ?_) fun H' p => ?_
  · obtain ⟨s1, hl⟩ := p
    obtain ⟨⟨m, n⟩, hm, bb, rfl, hbb⟩ := paired_at hp hi
    refine ⟨bb, _, rfl, SqT.of (s1 _ _ hbb), rfl, _, _, rfl, _, _, rfl, rfl, hw _ _, ?_⟩
    refine ⟨_, hb _ _, _, hl, ?_, same_own s1 hD, ?_⟩
    · rw [List.length_map, List.length_map, List.length_take]; exact small (by omega)
    · rw [upd_same, List.take_add_one, hm]; simp
  · obtain ⟨s1, hl⟩ := p
    rw [Paired.length hp, List.take_length] at hl
    exact q H' D s1 hD hl
theorem sum_snd (F : List (Str × Int)) : (F.map (·.2)).sum = sm F fun q => q.2 := rfl
section
variable {P : Program} {w : World} {K : PySem.W.Frag} {mg : Str → Option Value} {base : Heap}
def spExc : Sp := fun vs H Q _ => ∃ (t f s : V) (N : List (Str × Int)) (E : List Ed') (F S : List (Str × Int)), vs = [t, f, s] ∧ TreeAt H t N E ∧ LoadAt H f F ∧ LoadAt H s S ∧ N.length ≤ 12 ∧ (names N).Nodup ∧ LdOk N F S ∧
  ∀ H' p, Same H H' → H p = none → H' p = some (.dK (dI (names N) (mo F S))) → Q (.ref p) H'
def excInv (t f s : V) (N : List (Str × Int)) (H0 : Hp) (m : Addr) (g : Nat → Str → Int) (i : Nat) (σ' : L2.St) (H' : Hp) : Prop :=
  ∃ x3 x4 x6, σ' = [some t, some f, some s, x3, x4, some (.ref m), x6] ∧ Same H0 H' ∧ H' m = some (.dK (dI (names N) (g i)))
theorem ok_exc {f : Addr} {fd : FuncData} (F : Fun K "excess_of" "excess_of" sExc f fd) (bl : Blt mg) : FnOk P w K mg base CX0 1 f fd ["some_tree", "first", "second"] spExc := by
  refine F.ok scExc (fun vs H Q E h => ?_) (fun cdv A outer s H vs Q E hr h => ?_)
  · obtain ⟨t, f, s, N, E, F, S, rfl, _⟩ := h
    rfl
  · obtain ⟨t, fv, sv, N, E, F, S, rfl, hT, hf, hs, n12, nd, ld, q⟩ := h
    have hu := hu_of hr
    refine ⟨_, pss_cons (ps_if (pt_cmpR op_ne
        (pe_callB (cr_sum rfl) (by rfl) bl.sum boot_sum (pa_cons (pe_lc (own := [("name", 3), ("number", 4)]) (g := gTup K 2 (gCons (gName 3) (gCons (gName 4) gNil))) (tt := tYes) rfl scExc.nd (pi_list (pv 1))
          (blkOk_by (N := ["some_tree", "first", "second", "name", "number", "more", "weight"]) (sc := defScope sExc) (by decide +kernel))
          (fun _ _ _ _ _ => pg_tup rfl (pgs_cons (pg_name (i := 3) scExc.nd rfl (Or.inl rfl)) (pgs_cons (pg_name (i := 4) scExc.nd rfl (Or.inl rfl)) pgs_nil))) (fun _ _ _ _ _ => pts_nil) (fun _ _ _ _ _ => pv 4)) pa_nil))
        (pe_callB (cr_sum rfl) (by rfl) bl.sum boot_sum (pa_cons (pe_lc (own := [("name", 3), ("number", 4)]) (g := gTup K 2 (gCons (gName 3) (gCons (gName 4) gNil))) (tt := tYes) rfl scExc.nd (pi_list (pv 2))
          (blkOk_by (N := ["some_tree", "first", "second", "name", "number", "more", "weight"]) (sc := defScope sExc) (by decide +kernel))
          (fun _ _ _ _ _ => pg_tup rfl (pgs_cons (pg_name (i := 3) scExc.nd rfl (Or.inl rfl)) (pgs_cons (pg_name (i := 4) scExc.nd rfl (Or.inl rfl)) pgs_nil))) (fun _ _ _ _ _ => pts_nil) (fun _ _ _ _ _ => pv 4)) pa_nil)) (nomark _)) (pss_one ps_never) pss_nil)
      (pss_cons (ps_setDc (i := 5) (own := [("name", 3), ("weight", 6)]) (g := gTup K 2 (gCons (gName 3) (gCons (gName 6) gNil))) (tt := tYes) rfl scExc.nd rfl rfl (sw_dict rfl rfl rfl (by decide +kernel)) (pi_tup (pe_ix ix_tup (pv 0) pe_int (fun _ _ => rfl)))
          (blkOk_by (N := ["some_tree", "first", "second", "name", "number", "more", "weight"]) (sc := defScope sExc) (by decide +kernel))
          (fun _ _ _ _ _ => pg_tup rfl (pgs_cons (pg_name (i := 3) scExc.nd rfl (Or.inl rfl)) (pgs_cons (pg_name (i := 6) scExc.nd rfl (Or.inl rfl)) pgs_nil))) (fun _ _ _ _ _ => pts_nil) (fun _ _ _ _ _ => pv 3) (fun _ _ _ _ _ => pe_int))
      (pss_cons (ps_for PassesOwn.never rfl (pi_list (pv 1)) (pg_tup rfl (pgs_cons (pg_name (i := 3) scExc.nd rfl (Or.inl rfl)) (pgs_cons (pg_name (i := 4) scExc.nd rfl (Or.inl rfl)) pgs_nil)))
          (pss_one (ps_dput hu (pv 5) (pv 3) (pe_op op_add (pe_dget hu (pv 5) (pv 3) (fun _ _ => rfl)) (pv 4)) rfl)))
      (pss_cons (ps_for PassesOwn.never rfl (pi_list (pv 2)) (pg_tup rfl (pgs_cons (pg_name (i := 3) scExc.nd rfl (Or.inl rfl)) (pgs_cons (pg_name (i := 4) scExc.nd rfl (Or.inl rfl)) pgs_nil)))
          (pss_one (ps_dput hu (pv 5) (pv 3) (pe_op op_sub (pe_dget hu (pv 5) (pv 3) (fun _ _ => rfl)) (pv 4)) rfl)))
      (pss_one (ps_ret (pv 5)))))), ?_⟩
    dsimp only [tSeq, tIfS, tTest, tOp, tCB, tCons, tNil]
    refine rd_snd rfl hf ld.fl (fun _ _ => rfl) (fun _ _ => rfl) fun H1 D1 s1 n1 h1 => ⟨D1, _, rfl, SqL.of h1, ?_⟩
    refine rd_snd rfl (hs.same s1) ld.sl (fun _ _ => rfl) (fun _ _ => rfl) fun H2 D2 s2 n2 h2 => ⟨D2, _, rfl, SqL.of h2, rfl, _, rfl, ?_⟩
    refine iteNS (by rw [sum_snd, sum_snd, ld.eq]) ?_
    have sA := s1.trans s2
    obtain ⟨a, n, e, ns, es, rfl, t1, t2, t3, t4, t5⟩ := hT
    -- more = {name: 0 ..}
    refine ⟨_, rfl, a, _, 0, .ref n, rfl, rfl, SqT.of (sA _ _ t1), at_of (j := 0) rfl rfl, n, rfl, ⟨ns, SqT.of (sA _ _ t2)⟩, fun m nm => ?_⟩
    have nm0 : H m = none := sA.free nm
    refine dc_tup (K := K) (a := n) (xs := ns) (fun i H' => Same H2 H' ∧ H' m = some (.dK (dI ((names N).take i) fun _ => 0))) ⟨same_new nm, by rw [upd_same]; rfl⟩ (fun i H' _ p => SqT.of (p.1 _ _ (sA _ _ t2))) (fun i x H' hi p => ?_) fun H3 p => ?_
    · obtain ⟨s3, hm⟩ := p
      obtain ⟨⟨nn, wt⟩, hN, bb, rfl, hbb⟩ := paired_at t4 hi
      have hnn : (names N)[i]? = some nn := by unfold names; rw [List.getElem?_map, hN]; rfl
      have i12 : i < (names N).length := (List.getElem?_eq_some_iff.mp hnn).1
      have e12 : (names N).length = N.length := List.length_map ..
      have tk : (names N).take (i + 1) = (names N).take i ++ [nn] := by rw [List.take_add_one, hnn]; rfl
      have new : nn ∉ (names N).take i := fun h => by
        have := nd
        rw [← List.take_append_drop (i + 1) (names N), tk] at this
        have := (List.nodup_append.mp this).1
        exact (List.nodup_append.mp this).2.2 nn h nn List.mem_cons_self rfl
      refine ⟨bb, _, rfl, SqT.of (s3 _ _ (sA _ _ hbb)), rfl, _, _, rfl, _, _, rfl, rfl, rfl, ?_⟩
      refine ⟨_, rfl, _, Sum.inr nn, rfl, hm, ?_, same_own s3 nm, ?_⟩
      · rw [dV_length, List.length_take]; exact small (by omega)
      · rw [upd_same, dI_new new, tk]
        exact congrArg (fun z => some (HO.dK z)) (dV_congr fun x _ => by unfold put; split <;> rfl)
    obtain ⟨s3, hm⟩ := p
    have e12 : ns.length = (names N).length := by rw [Paired.length t4]; exact (List.length_map ..).symm
    rw [e12, List.take_length] at hm
    have sB := sA.trans s3
    -- the first load
    obtain ⟨l1, xs1, rfl, hL1, hp1⟩ := id hf
    obtain ⟨l2, xs2, rfl, hL2, hp2⟩ := id hs
    have kz : (dI (names N) fun _ => 0).length < sizeLine := by rw [dV_length, ← e12]; have := Paired.length t4; exact small (by omega)
    refine ⟨_, rfl, l1, rfl, ⟨xs1, SqL.of (sB _ _ hL1)⟩, ?_⟩
    refine for_list (K := K) (a := l1) (xs := xs1) (excInv (.ref a) (.ref l1) (.ref l2) N H m fun i => val (F.take i)) ⟨_, _, _, rfl, sB, hm⟩ (fun i σ H' _ p => by obtain ⟨_, _, _, _, s4, _⟩ := p; exact SqL.of (s4 _ _ hL1)) (fun i x σ H' hi p => ?_) fun σ H4 p => ?_
    · obtain ⟨x3, x4, x6, rfl, s4, hm4⟩ := p
      obtain ⟨⟨nn, num⟩, hF, bb, rfl, hbb⟩ := paired_at hp1 hi
      have hin : nn ∈ names N := ld.f _ (List.mem_of_getElem? hF)
      refine ⟨bb, _, rfl, SqT.of (s4 _ _ hbb), rfl, _, _, rfl, _, _, rfl, rfl, ?_⟩
      refine ⟨_, rfl, _, rfl, m, _, rfl, (by have := DGet.k (k := Sum.inr nn) hm4; rw [dV_get hin] at this; exact this), _, rfl, _, _, rfl, rfl, _, rfl, _, rfl, m, _, rfl, DPut.k (k := Sum.inr nn) hm4 (by rw [dV_length] at kz ⊢; exact kz), ?_⟩
      refine ⟨_, _, _, rfl, same_own s4 nm0, ?_⟩
      rw [upd_same, dI_put hin]
      exact congrArg (fun z => some (HO.dK z)) (dV_congr fun x _ => by show _ = V.int (val (F.take (i + 1)) x); rw [val_take hF])
    · obtain ⟨x3, x4, x6, rfl, s4, hm4⟩ := p
      have hm4 : H4 m = some (.dK (dI (names N) (val (F.take xs1.length)))) := hm4
      rw [Paired.length hp1, List.take_length] at hm4
      refine ⟨_, rfl, l2, rfl, ⟨xs2, SqL.of (s4 _ _ hL2)⟩, ?_⟩
      refine for_list (K := K) (a := l2) (xs := xs2) (excInv (.ref a) (.ref l1) (.ref l2) N H m fun i x => val F x - val (S.take i) x) ⟨_, _, _, rfl, s4, ?_⟩ (fun i σ H' _ p => by obtain ⟨_, _, _, _, s4, _⟩ := p; exact SqL.of (s4 _ _ hL2)) (fun i x σ H' hi p => ?_) fun σ H4 p => ?_
      · rw [hm4]
        exact congrArg (fun z => some (HO.dK z)) (dV_congr fun x _ => by simp [val, sm_nil])
      · obtain ⟨x3, x4, x6, rfl, s4, hm4⟩ := p
        obtain ⟨⟨nn, num⟩, hS, bb, rfl, hbb⟩ := paired_at hp2 hi
        have hin : nn ∈ names N := ld.s _ (List.mem_of_getElem? hS)
        refine ⟨bb, _, rfl, SqT.of (s4 _ _ hbb), rfl, _, _, rfl, _, _, rfl, rfl, ?_⟩
        refine ⟨_, rfl, _, rfl, m, _, rfl, (by have := DGet.k (k := Sum.inr nn) hm4; rw [dV_get hin] at this; exact this), _, rfl, _, _, rfl, rfl, _, rfl, _, rfl, m, _, rfl, DPut.k (k := Sum.inr nn) hm4 (by rw [dV_length] at kz ⊢; exact kz), ?_⟩
        refine ⟨_, _, _, rfl, same_own s4 nm0, ?_⟩
        rw [upd_same, dI_put hin]
        refine congrArg (fun z => some (HO.dK z)) (dV_congr fun x _ => ?_)
        show _ = V.int (val F x - val (S.take (i + 1)) x)
        rw [val_take hS]
        unfold put
        by_cases e : x = nn
        · rw [if_pos e, if_pos e, e]; congr 1; simp only; omega
        · rw [if_neg e, if_neg e]
      · obtain ⟨x3, x4, x6, rfl, s4, hm4⟩ := p
        have hm4 : H4 m = some (.dK (dI (names N) fun x => val F x - val (S.take xs2.length) x)) := hm4
        rw [Paired.length hp2, List.take_length] at hm4
        exact ⟨_, rfl, q _ m s4 nm0 hm4⟩
end
end K59

set_option Elab.async false
set_option linter.all false
set_option maxRecDepth 100000
set_option maxHeartbeats 1000000
namespace K59
open PySem PySem.Spec PyProof.Rows L2
/-- the flow over an edge -/
abbrev fo (N : List (Str × Int)) (σ : Ed' → Str → Int) (F S : List (Str × Int)) : Ed' → Int := fl (names N) σ (mo F S)
theorem near_sum {ns : List Str} {E : List Ed'} {σ : Ed' → Str → Int} (G : Good ns E σ) {e : Ed'} (he : e ∈ E) (m : Str → Int) : ((ns.filter fun x => decide (σ e x = 1)).map m).sum = fl ns σ m e := by
  show sm (ns.filter fun x => decide (σ e x = 1)) m = _
  rw [sm_filter]
  refine sm_congr fun x _ => ?_
  rcases G.bin e he x with h | h
  · rw [if_neg (by simp [h]), h]; omega
  · rw [if_pos (by simp [h]), h]; omega
theorem Arb.dist_bd {N : List (Str × Int)} {E : List Ed'} {σ : Ed' → Str → Int} (ar : Arb N E σ) (a b : Str) : 0 ≤ dist E σ a b ∧ dist E σ a b ≤ 12 * 999 := by
  have key : ∀ l : List Ed', (∀ e ∈ l, e ∈ E) → 0 ≤ dist l σ a b ∧ dist l σ a b ≤ (l.length : Int) * 999 := fun l => by
    induction l with
    | nil => intro _; unfold dist; rw [sm_nil]; simp
    | cons e l ih =>
      intro h
      have ih' := ih fun x hx => h x (List.mem_cons_of_mem _ hx)
      have h1 := ar.G.pos e (h e List.mem_cons_self)
      have h2 := ar.len e (h e List.mem_cons_self)
      unfold dist at *
      rw [sm_cons, List.length_cons]
      split <;> omega
  have := key E fun e he => he
  have e12 := ar.e12
  omega
section
variable {P : Program} {w : World} {K : PySem.W.Frag} {mg : Str → Option Value} {base : Heap}
/-! ### flow -/
def spFlow : Sp := fun vs H Q _ => ∃ (t f s : V) (N : List (Str × Int)) (E : List Ed') (σ : Ed' → Str → Int) (F S : List (Str × Int)), vs = [t, f, s] ∧ TreeAt H t N E ∧ Arb N E σ ∧ LoadAt H f F ∧ LoadAt H s S ∧ LdOk N F S ∧
  ∀ H' p xs A, Same H H' → H p = none → H' p = some (.lst xs) → Paired (TripAt H') xs A → A.Perm (E.filterMap (arcOf (fo N σ F S))) → Q (.ref p) H'
theorem ok_flow {f fX fS : Addr} {fd fdX fdS : FuncData} (F : Fun K "flow" "flow" sFlow f fd) (bl : Blt mg) (GX : FnOk P w K mg base CX0 1 fX fdX ["some_tree", "first", "second"] spExc) (cX : Cal K mg "excess_of" fX fdX ["some_tree", "first", "second"])
    (GS : FnOk P w K mg base CX0 3 fS fdS ["some_tree", "first", "second"] spSides) (cS : Cal K mg "sides" fS fdS ["some_tree", "first", "second"]) : FnOk P w K mg base CX0 4 f fd ["some_tree", "first", "second"] spFlow := by
  refine F.ok scFlow (fun vs H Q E h => ?_) (fun cdv A outer s H vs Q E hr h => ?_)
  · obtain ⟨t, f, s, N, E, σ, F, S, rfl, _⟩ := h
    rfl
  · obtain ⟨t, fv, sv, N, E, σ, F, S, rfl, hT, ar, hf, hs, ld, q⟩ := h
    have hu := hu_of hr
    have hr1 : Room 1 _ := hr.mono (by decide)
    refine ⟨_, pss_cons (ps_set (i := 3) scFlow.nd rfl (.inr rfl) (pe_call GX hr1 (by rfl) cX.m cX.kp cX.b .nil pass0 (pa_cons (pv 0) (pa_cons (pv 1) (pa_cons (pv 2) pa_nil)))))
      (pss_cons (ps_set (i := 4) scFlow.nd rfl (.inl rfl) (pe_lst pa_nil))
      (pss_cons (ps_for PassesOwn.never rfl (pi_tup (pe_ix ix_tup (pv 0) pe_int (fun _ _ => rfl)))
        (pg_tup rfl (pgs_cons (pg_name (i := 5) scFlow.nd rfl (.inl rfl)) (pgs_cons (pg_name (i := 6) scFlow.nd rfl (.inl rfl)) (pgs_cons (pg_name (i := 7) scFlow.nd rfl (.inl rfl)) pgs_nil))))
        (pss_cons (ps_set (i := 8) scFlow.nd rfl (.inl rfl) (pe_callB (cr_sum rfl) (by rfl) bl.sum boot_sum (pa_cons (pe_lc (own := [("name", 9)]) (g := gName 9) (tt := tYes) rfl scFlow.nd
            (pi_list (pe_ix ix_tup (pe_call GS hr (by rfl) cS.m cS.kp cS.b .nil pass0 (pa_cons (pv 0) (pa_cons (pv 5) (pa_cons (pv 6) pa_nil)))) pe_int (fun _ _ => rfl)))
            (blkOk_by (N := ["some_tree", "first", "second", "more", "found", "one", "other", "_", "number", "name"]) (sc := defScope sFlow) (by decide +kernel))
            (fun _ _ _ _ _ => pg_name (i := 9) scFlow.nd rfl (Or.inl rfl)) (fun _ _ _ _ _ => pts_nil) (fun _ _ _ _ _ => pe_dget hu (pv 3) (pv 9) (fun _ _ => rfl))) pa_nil)))
        (pss_one (ps_if (pt_cmpR op_gt (pv 8) pe_int (nomark _))
          (pss_one (ps_expr (pe_bm PySem.F.plainAttrs_list PySem.F.slot_list_append PySem.F.type_list_append mt_append (pv 4) (pa_cons (pe_tup (pa_cons (pv 5) (pa_cons (pv 6) (pa_cons (pv 8) pa_nil)))) pa_nil))))
          (pss_one (ps_if (pt_cmpR op_lt (pv 8) pe_int (nomark _))
            (pss_one (ps_expr (pe_bm PySem.F.plainAttrs_list PySem.F.slot_list_append PySem.F.type_list_append mt_append (pv 4) (pa_cons (pe_tup (pa_cons (pv 6) (pa_cons (pv 5) (pa_cons (pe_un un_neg (pv 8)) pa_nil)))) pa_nil)))) pss_nil))))))
      (pss_one (ps_ret (pe_callB (cr_sortedT hr.units) (by rfl) bl.sorted boot_sorted (pa_cons (pv 4) pa_nil)))))), ?_⟩
    refine ⟨_, rfl, _, rfl, _, rfl, t, fv, sv, N, E, F, S, rfl, hT, hf, hs, ar.n12, ar.G.nd, ld, fun H1 m s1 nm hm => ?_⟩
    refine ⟨Nat.zero_le _, fun o no => ?_⟩
    have no0 : H o = none := s1.free no
    have hmo : m ≠ o := ne_new hm no
    obtain ⟨a, n, e, ns, es, rfl, t1, t2, t3, t4, t5⟩ := id hT
    have s2 : Same H (upd H1 o (.lst [])) := s1.trans (same_new no)
    refine ⟨_, rfl, a, _, 1, .ref e, rfl, rfl, SqT.of (s2 _ _ t1), at_of (j := 1) rfl rfl, e, rfl, ⟨es, SqT.of (s2 _ _ t3)⟩, ?_⟩
    refine for_tup (K := K) (a := e) (xs := es) (fun i σ' H' => ∃ x5 x6 x7 x8 x9 xs B, σ' = [some (.ref a), some fv, some sv, some (.ref m), some (.ref o), x5, x6, x7, x8, x9] ∧ Same H H' ∧ H' m = some (.dK (dI (names N) (mo F S))) ∧ H' o = some (.lst xs) ∧ Paired (TripAt H') xs B ∧
      B = (E.take i).filterMap (arcOf (fo N σ F S))) ⟨none, none, none, none, none, [], [], rfl, s2, by rw [upd_ne hmo]; exact hm, upd_same, .nil, rfl⟩ (fun i σ' H' _ p => ?_) (fun i x σ' H' hi p => ?_) fun σ' H' p => ?_
    · obtain ⟨_, _, _, _, _, _, _, _, s3, _⟩ := p
      exact SqT.of (s3 _ _ t3)
    · obtain ⟨x5, x6, x7, x8, x9, xs, B, rfl, s3, hm3, ho3, hp3, hB⟩ := p
      obtain ⟨⟨x, y, l⟩, hE', b, rfl, hb⟩ := paired_at t5 hi
      have i12 : i < 12 := by have := (List.getElem?_eq_some_iff.mp hE').1; have := ar.e12; omega
      have heE := List.mem_of_getElem? hE'
      have Bl : B.length ≤ i := by rw [hB]; refine Nat.le_trans (List.length_filterMap_le _ _) ?_; rw [List.length_take]; omega
      have xl := Paired.length hp3
      have tk : (E.take (i + 1)).filterMap (arcOf (fo N σ F S)) = B ++ (arcOf (fo N σ F S) (x, y, l)).toList := by
        rw [List.take_add_one, hE', List.filterMap_append, ← hB]
        cases hc : arcOf (fo N σ F S) (x, y, l) <;> simp [hc]
      refine ⟨b, _, rfl, SqT.of (s3 _ _ hb), rfl, _, _, rfl, _, _, rfl, _, _, rfl, rfl, ?_⟩
      refine ⟨_, rfl, _, rfl, _, rfl, .ref a, (x, y, l), N, E, σ, rfl, hT.stay (same_tstay s3), ar, heE, fun H4 p4 a4 b4 s4 n4 h4 h5 => ?_⟩
      refine ⟨p4, _, 0, .ref a4, rfl, rfl, SqT.of h4, at_of (j := 0) rfl rfl, a4, rfl, ⟨_, SqL.of h5⟩, fun D hD => ?_⟩
      have hm4 := s4 _ _ hm3
      have ho4 := s4 _ _ ho3
      refine lc_list (K := K) (a := a4) (xs := ((names N).filter fun z => decide (σ (x, y, l) z = 1)).map V.str) (fun j H' => Same H4 H' ∧ H' D = some (.lst (((((names N).filter fun z => decide (σ (x, y, l) z = 1)).take j).map (mo F S)).map V.int))) ⟨same_new hD, by rw [upd_same]; rfl⟩
        (fun j H' _ p' => SqL.of (p'.1 _ _ h5)) (fun j z H' hj p' => ?_) fun H5 p' => ?_
      · obtain ⟨s5, hl⟩ := p'
        obtain ⟨nm, hnm, rfl⟩ : ∃ nm, ((names N).filter fun z => decide (σ (x, y, l) z = 1))[j]? = some nm ∧ V.str nm = z := by
          rw [List.getElem?_map] at hj
          cases en : ((names N).filter fun z => decide (σ (x, y, l) z = 1))[j]? with
          | none => rw [en] at hj; cases hj
          | some nm => rw [en] at hj; exact ⟨nm, rfl, Option.some.inj hj⟩
        have hin : nm ∈ names N := (List.mem_filter.mp (List.mem_of_getElem? hnm)).1
        have j12 : j < 12 := by
          have h1 := (List.getElem?_eq_some_iff.mp hnm).1
          have h2 := List.length_filter_le (fun z => decide (σ (x, y, l) z = 1)) (names N)
          have h3 : (names N).length = N.length := List.length_map ..
          have := ar.n12
          omega
        refine ⟨rfl, _, rfl, _, rfl, m, .int (mo F S nm), rfl, (by have := DGet.k (k := Sum.inr nm) (s5 _ _ hm4); rw [dV_get hin] at this; exact this), ?_⟩
        refine ⟨_, hl, small (by rw [List.length_map, List.length_map, List.length_take]; omega), same_own s5 hD, ?_⟩
        rw [upd_same, List.take_add_one, hnm]; simp
      · obtain ⟨s5, hl⟩ := p'
        rw [List.length_map, List.take_length] at hl
        refine ⟨D, _, rfl, SqL.of hl, ?_⟩
        rw [near_sum (ns := names N) ar.G heE]
        have sA := s3.trans (s4.trans s5)
        have hm5 := s5 _ _ hm4
        have ho5 := s5 _ _ ho4
        have hp5 := trips_stay hp3 (same_tstay (s4.trans s5))
        refine ⟨_, rfl, _, _, rfl, rfl, _, rfl, ?_⟩
        refine ite2 (fun h => ?_) (fun h => ?_)
        · have h0 : 0 < fo N σ F S (x, y, l) := of_decide_eq_true h
          refine ⟨_, rfl, .inl ⟨rfl, _, SqL.of ho5⟩, _, rfl, _, rfl, _, rfl, le3, fun p6 n6 => ⟨o, _, _, rfl, rfl, (upd_ne (ne_new ho5 n6)).trans ho5, small (by omega), ?_⟩⟩
          refine ⟨_, _, _, _, _, _, _, rfl, same_own (sA.trans (same_new n6)) no0, ?_, upd_same, app_trip ho5 n6 hp5, ?_⟩
          · rw [upd_ne hmo, upd_ne (ne_new hm5 n6)]; exact hm5
          · rw [tk]; congr 1; unfold arcOf; rw [if_pos h0]; rfl
        · have h0 : ¬ 0 < fo N σ F S (x, y, l) := fun z => h (decide_eq_true z)
          refine ⟨_, rfl, _, _, rfl, rfl, _, rfl, ?_⟩
          refine ite2 (fun h' => ?_) (fun h' => ?_)
          · have h1 : fo N σ F S (x, y, l) < 0 := of_decide_eq_true h'
            refine ⟨_, rfl, .inl ⟨rfl, _, SqL.of ho5⟩, _, rfl, _, rfl, _, rfl, _, rfl, le3, fun p6 n6 => ⟨o, _, _, rfl, rfl, (upd_ne (ne_new ho5 n6)).trans ho5, small (by omega), ?_⟩⟩
            refine ⟨_, _, _, _, _, _, _, rfl, same_own (sA.trans (same_new n6)) no0, ?_, upd_same, app_trip ho5 n6 hp5, ?_⟩
            · rw [upd_ne hmo, upd_ne (ne_new hm5 n6)]; exact hm5
            · rw [tk]; congr 1; unfold arcOf; rw [if_neg h0, if_pos h1]; rfl
          · have h1 : ¬ fo N σ F S (x, y, l) < 0 := fun z => h' (decide_eq_true z)
            refine ⟨_, _, _, _, _, _, _, rfl, sA, hm5, ho5, hp5, ?_⟩
            rw [tk]; unfold arcOf; rw [if_neg h0, if_neg h1]; simp
    · obtain ⟨x5, x6, x7, x8, x9, xs, B, rfl, s3, hm3, ho3, hp3, hB⟩ := p
      rw [Paired.length t5, List.take_length] at hB
      refine ⟨_, rfl, o, xs, B, rfl, SqL.of ho3, hp3, fun xs' F' p hp' pm hn => ?_⟩
      exact q _ p xs' F' (s3.trans (same_new hn)) (s3.free hn) upd_same (trips_stay hp' (tstay_new hn)) (hB ▸ pm)
/-! ### cost -/
def spCost : Sp := fun vs H Q _ => ∃ (t f s : V) (N : List (Str × Int)) (E : List Ed') (σ : Ed' → Str → Int) (F S : List (Str × Int)), vs = [t, f, s] ∧ TreeAt H t N E ∧ Arb N E σ ∧ LoadAt H f F ∧ LoadAt H s S ∧ LdOk N F S ∧
  ∀ H', Same H H' → Q (.int (sm E fun e => e.2.2 * ab (fo N σ F S e))) H'
theorem ok_cost {f fL fD : Addr} {fd fdL fdD : FuncData} (F : Fun K "cost" "cost" sCost f fd) (GL : FnOk P w K mg base CX0 4 fL fdL ["some_tree", "first", "second"] spFlow) (cL : Cal K mg "flow" fL fdL ["some_tree", "first", "second"])
    (GD : FnOk P w K mg base CX0 3 fD fdD ["some_tree", "first", "second"] spDist) (cD : Cal K mg "distance" fD fdD ["some_tree", "first", "second"]) : FnOk P w K mg base CX0 5 f fd ["some_tree", "first", "second"] spCost := by
  refine F.ok scCost (fun vs H Q E h => ?_) (fun cdv A outer s H vs Q E hr h => ?_)
  · obtain ⟨t, f, s, N, E, σ, F, S, rfl, _⟩ := h
    rfl
  · obtain ⟨t, fv, sv, N, E, σ, F, S, rfl, hT, ar, hf, hs, ld, q⟩ := h
    have hr3 : Room 3 _ := hr.mono (by decide)
    refine ⟨_, pss_cons (ps_set (i := 3) scCost.nd rfl (.inl rfl) pe_int)
      (pss_cons (ps_for PassesOwn.never rfl (pi_list (pe_call GL hr (by rfl) cL.m cL.kp cL.b .nil pass0 (pa_cons (pv 0) (pa_cons (pv 1) (pa_cons (pv 2) pa_nil)))))
        (pg_tup rfl (pgs_cons (pg_name (i := 4) scCost.nd rfl (.inl rfl)) (pgs_cons (pg_name (i := 5) scCost.nd rfl (.inl rfl)) (pgs_cons (pg_name (i := 6) scCost.nd rfl (.inl rfl)) pgs_nil))))
        (pss_one (ps_set (i := 3) scCost.nd rfl (.inl rfl) (pe_op op_add (pv 3) (pe_op op_mul (pv 6) (pe_call GD hr3 (by rfl) cD.m cD.kp cD.b .nil pass0 (pa_cons (pv 0) (pa_cons (pv 4) (pa_cons (pv 5) pa_nil)))))))))
      (pss_one (ps_ret (pv 3)))), ?_⟩
    refine ⟨_, rfl, _, rfl, _, rfl, t, fv, sv, N, E, σ, F, S, rfl, hT, ar, hf, hs, ld, fun H1 p xs A s1 np hp hA pm => ⟨p, rfl, ⟨xs, SqL.of hp⟩, ?_⟩⟩
    have inA : ∀ x ∈ A, x.1 ∈ names N ∧ x.2.1 ∈ names N := fun x hx => by
      obtain ⟨e, he, hs⟩ := List.mem_filterMap.mp (pm.mem_iff.mp hx)
      have := ar.G.mem e he
      rcases arcOf_some hs with ⟨_, rfl⟩ | ⟨_, rfl⟩
      · exact this
      · exact ⟨this.2, this.1⟩
    refine for_list (K := K) (a := p) (xs := xs) (fun i σ' H' => ∃ x4 x5 x6, σ' = [some t, some fv, some sv, some (.int (sm (A.take i) fun x => x.2.2 * dist E σ x.1 x.2.1)), x4, x5, x6] ∧ Same H1 H') ⟨none, none, none, rfl, Same.refl _⟩
      (fun i σ' H' _ p' => by obtain ⟨_, _, _, _, s2⟩ := p'; exact SqL.of (s2 _ _ hp)) (fun i x σ' H' hi p' => ?_) fun σ' H' p' => ?_
    · obtain ⟨x4, x5, x6, rfl, s2⟩ := p'
      obtain ⟨⟨x, y, l⟩, hE', b, rfl, hb⟩ := paired_at hA hi
      have hin := inA _ (List.mem_of_getElem? hE')
      refine ⟨b, _, rfl, SqT.of (s2 _ _ hb), rfl, _, _, rfl, _, _, rfl, _, _, rfl, rfl, ?_⟩
      refine ⟨_, rfl, _, rfl, _, rfl, _, rfl, _, rfl, t, x, y, N, E, σ, rfl, hT.stay (same_tstay (s1.trans s2)), ar, hin.1, hin.2, fun H3 s3 => ?_⟩
      have bd := ar.dist_bd x y
      refine ⟨_, _, rfl, rfl, .inr ⟨by omega, by omega⟩, _, _, rfl, rfl, ?_⟩
      refine ⟨some (.str x), some (.str y), some (.int l), ?_, s2.trans s3⟩
      have : sm (A.take (i + 1)) (fun x => x.2.2 * dist E σ x.1 x.2.1) = sm (A.take i) (fun x => x.2.2 * dist E σ x.1 x.2.1) + l * dist E σ x y := by
        rw [List.take_add_one, hE', sm_append, Option.toList_some, sm_cons, sm_nil, Int.add_zero]
      rw [this]; rfl
    · obtain ⟨x4, x5, x6, rfl, s2⟩ := p'
      refine ⟨_, rfl, ?_⟩
      rw [Paired.length hA, List.take_length, ar.G.cost pm]
      exact q H' (s1.trans s2)
end
end K59

set_option Elab.async false
set_option linter.all false
set_option maxRecDepth 100000
set_option maxHeartbeats 1000000
namespace K59
open PySem PySem.Spec PyProof.Rows L2
theorem same_unlock {H1 H' : Hp} {d : Addr} {u : HO} {od : Obj} (h : H1 d = some u) (s : Same (upd H1 d (.frz od u)) H') : Same H1 (upd H' d u) := fun b o e => by
  by_cases hb : b = d
  · subst hb; rw [upd_same]; rw [h] at e; exact e
  · rw [upd_ne hb]; exact s b o (by rw [upd_ne hb]; exact e)
theorem same_lock {H1 : Hp} {d b : Addr} {o u v : HO} (h : H1 d = some u) (e : H1 b = some o) (ne : b ≠ d) : upd H1 d v b = some o := by rw [upd_ne ne]; exact e
theorem lock_free {H1 : Hp} {d p : Addr} {u v : HO} (h : H1 d = some u) (e : upd H1 d v p = none) : H1 p = none ∧ p ≠ d := by
  have ne : p ≠ d := fun z => by rw [z, upd_same] at e; cases e
  exact ⟨by rw [upd_ne ne] at e; exact e, ne⟩
theorem atI_end {xs : List V} {v : V} (h : xs.getLast? = some v) : atI xs (-1) = some v := by
  have : xs = xs.dropLast ++ [v] := by
    cases xs with
    | nil => simp at h
    | cons a r =>
      have e : (a :: r).getLast (by simp) = v := by rw [List.getLast?_eq_some_getLast (by simp)] at h; exact Option.some.inj h
      rw [← e, List.dropLast_concat_getLast]
  rw [this]; exact atI_last _ _
theorem getLast_map {ws : List Str} {v : Str} (h : ws.getLast? = some v) : (ws.map V.str).getLast? = some (.str v) := by rw [List.getLast?_map, h]; rfl
/-- the nodes that v's flow goes to -/
def outs (L : List ((Str × Str) × Int)) (v : Str) : List Str := L.filterMap fun p => if p.1.1 = v ∧ 0 < p.2 then some p.1.2 else none
theorem mem_outs {L : List ((Str × Str) × Int)} {v z : Str} : z ∈ outs L v ↔ PArc L v z := by
  unfold outs
  rw [List.mem_filterMap]
  constructor
  · rintro ⟨p, hp, h⟩
    split at h
    · next c => exact ⟨p.2, by have := Option.some.inj h; rw [← c.1, ← this]; exact hp, c.2⟩
    · cases h
  · rintro ⟨n, hn, h0⟩
    exact ⟨_, hn, if_pos ⟨rfl, h0⟩⟩
section
variable {P : Program} {w : World} {K : PySem.W.Frag} {mg : Str → Option Value} {base : Heap}
def spWay : Sp := fun vs H Q _ => ∃ (d mm : Addr) (s0 : Str) (N : List (Str × Int)) (E : List Ed') (σ : Ed' → Str → Int) (m : Str → Int) (L : List ((Str × Str) × Int)), vs = [.ref d, .ref mm, .str s0] ∧ Arb N E σ ∧ H d = some (.dT (dT2 (nI L))) ∧ H mm = some (.dK (dI (names N) m)) ∧
  (L.map (·.1)).Nodup ∧ L.length ≤ 12 ∧ sm (names N) m = 0 ∧ LeftOk E (fl (names N) σ m) L ∧ s0 ∈ names N ∧ 0 < m s0 ∧
  ∀ H' p ws t, Same H H' → H p = none → H' p = some (.lst (ws.map V.str)) → Way (PArc L) s0 ws t → t ∈ names N → m t < 0 → ws.length ≤ 13 → Q (.ref p) H'
def wayInv (d mm p : Addr) (s0 : Str) (N : List (Str × Int)) (E : List Ed') (σ : Ed' → Str → Int) (m : Str → Int) (L : List ((Str × Str) × Int)) (H0 : Hp) (k : Nat) (σ' : L2.St) (H' : Hp) : Prop :=
  ∃ ws v x4 x5, σ' = [some (.ref d), some (.ref mm), some (.str s0), some (.ref p), x4, x5] ∧ Same H0 H' ∧ H' p = some (.lst (ws.map V.str)) ∧ Way (PArc L) s0 ws v ∧ v ∈ names N ∧ (k : Int) = phi E σ (fl (names N) σ m) v ∧ ws.length + k ≤ 13 ∧ (0 < m v ∨ ∃ u, PArc L u v)
theorem phi_le {E : List Ed'} {σ : Ed' → Str → Int} {ns : List Str} (G : Good ns E σ) (f : Ed' → Int) (v : Str) : phi E σ f v ≤ E.length := by
  have key : ∀ l : List Ed', (∀ e ∈ l, e ∈ E) → phi l σ f v ≤ l.length := fun l => by
    induction l with
    | nil => intro _; unfold phi; rw [sm_nil]; simp
    | cons e l ih =>
      intro h
      have ih' := ih fun x hx => h x (List.mem_cons_of_mem _ hx)
      have b := G.bin e (h e List.mem_cons_self) v
      unfold phi at *
      rw [sm_cons, List.length_cons]
      split <;> (try split) <;> omega
  exact key E fun e he => he
theorem ok_way {f : Addr} {fd : FuncData} (F : Fun K "way_of" "way_of" sWay f fd) (bl : Blt mg) : FnOk P w K mg base CX0 1 f fd ["left", "more", "start"] spWay := by
  refine F.ok scWay (fun vs H Q E h => ?_) (fun cdv A outer s H vs Q E hr h => ?_)
  · obtain ⟨d, mm, s0, N, E, σ, m, L, rfl, _⟩ := h
    rfl
  · obtain ⟨d, mm, s0, N, E, σ, m, L, rfl, ar, hd, hmm, knd, l12, h0, lo, hs0, hm0, q⟩ := h
    have hu := hu_of hr
    refine ⟨_, pss_cons (ps_set (i := 3) scWay.nd rfl (.inr rfl) (pe_lst (pa_cons (pv 2) pa_nil)))
      (pss_cons (ps_while PassesOwn.never (pt_cmpR op_ge (pe_dget hu (pv 1) (pe_ix ix_list (pv 3) (pe_un un_neg pe_int) (fun _ _ => rfl)) (fun _ _ => rfl)) pe_int (nomark _))
        (pss_one (ps_expr (pe_bm PySem.F.plainAttrs_list PySem.F.slot_list_append PySem.F.type_list_append mt_append (pv 3) (pa_cons (pe_callB (cr_minS rfl hr.units) (by rfl) bl.min boot_min (pa_cons (pe_lock
          (pe_lc (own := [("one", 4), ("other", 5)]) (g := gTup K 2 (gCons (gName 4) (gCons (gName 5) gNil)))
            (tt := tAnd (tTest (tOp rEq (tVar 4) (tOp (rIxL K) (tVar 3) (tUn (rU fun i => .int (-i)) (tC (.int 1)))))) (tTest (tOp (rI0 fun i j => .bl (decide (j < i))) (tDGet (tVar 0) (tTup (tCons (tVar 4) (tCons (tVar 5) tNil)))) (tC (.int 0))))) rfl scWay.nd
            (pi_keys (pv 0)) (blkOk_by (N := ["left", "more", "start", "way", "one", "other"]) (sc := defScope sWay) (by decide +kernel))
            (fun _ _ _ _ _ => pg_tup rfl (pgs_cons (pg_name (i := 4) scWay.nd rfl (Or.inl rfl)) (pgs_cons (pg_name (i := 5) scWay.nd rfl (Or.inl rfl)) pgs_nil)))
            (fun _ _ _ _ _ => pts_one (PW.pt (pw_and (pt_cmpR op_eq (pv 4) (pe_ix (ix_listK (K := K) rfl) (pv 3) (pe_un un_neg pe_int) (fun _ _ => rfl)) (nomark _))
              (pw_and1 (pt_cmpR op_gt (pe_dget hu (pv 0) (pe_tup (pa_cons (pv 4) (pa_cons (pv 5) pa_nil))) (fun _ _ => rfl)) pe_int (nomark _))))))
            (fun _ _ _ _ _ => pv 5))) pa_nil)) pa_nil)))))
      (pss_one (ps_ret (pv 3)))), ?_⟩
    refine ⟨_, rfl, (by show 1 ≤ sizeLine; decide), fun p np => ?_⟩
    have ph0 := ar.G.phi_nonneg (fl (names N) σ m) s0
    have phE := phi_le ar.G (fl (names N) σ m) s0
    have e12 := ar.e12
    refine ⟨wayInv d mm p s0 N E σ m L H, ⟨(phi E σ (fl (names N) σ m) s0).toNat, [s0], s0, none, none, rfl, same_new np, by rw [upd_same]; rfl, .one, hs0, by omega, by simp; omega, .inl hm0⟩, ?_⟩
    rintro k σ' H1 ⟨ws, v, x4, x5, rfl, s1, hp1, W, hv, hk, hlen, hin⟩
    have hlast : (ws.map V.str).getLast? = some (.str v) := getLast_map W.last
    refine ⟨_, rfl, _, rfl, _, rfl, p, _, _, .str v, rfl, rfl, SqL.of hp1, atI_end hlast, mm, .int (m v), rfl, (by have := DGet.k (k := Sum.inr v) (s1 _ _ hmm); rw [dV_get hv] at this; exact this), _, _, rfl, rfl, _, rfl, ?_⟩
    refine ite2 (fun hge => ?_) (fun hlt => ?_)
    · have hge : 0 ≤ m v := of_decide_eq_true hge
      refine ⟨_, fun σ' H' hN => hN, ?_⟩
      -- way.append(min(..))
      have hd1 := s1 _ _ hd
      refine ⟨_, rfl, .inl ⟨rfl, _, SqL.of hp1⟩, ?_⟩
      refine ⟨d, _, hd1, trivial, fun od => ?_⟩
      refine ⟨_, rfl, d, od, rfl, .inr ⟨_, upd_same, fun D nD => ?_⟩⟩
      obtain ⟨nD1, neD⟩ := lock_free hd1 nD
      have hpL : upd H1 d (.frz od (.dT (dT2 (nI L)))) p = some (.lst (ws.map V.str)) := by
        rw [upd_ne fun e => by rw [e, hd1] at hp1; cases hp1]; exact hp1
      have hn : (dT2 (nI L)).length = L.length := by rw [dT2_length]; unfold nI; rw [List.length_map]
      refine lc_it walk_keysT (fun i H' => Same (upd H1 d (.frz od (.dT (dT2 (nI L))))) H' ∧ H' D = some (.lst ((outs (L.take i) v).map V.str))) ⟨same_new nD, by rw [upd_same]; rfl⟩
        (fun i H' _ p' => p'.1 _ _ upd_same) (fun i x H' H2 hi p' hy => ?_) fun H' p' => ?_
      · obtain ⟨s2, hl⟩ := p'
        rw [hn] at hi
        obtain ⟨rfl, kk, vv, qq, hk1, rfl, hq⟩ := hy
        obtain ⟨⟨⟨a, b⟩, n⟩, hL⟩ : ∃ e, L[i]? = some e := ⟨_, List.getElem?_eq_getElem hi⟩
        have ek : kk = kT (a, b) ∧ vv = V.int n := by
          unfold dT2 nI at hk1
          rw [List.getElem?_map, List.getElem?_map, hL] at hk1
          have := Option.some.inj hk1
          exact ⟨(Prod.mk.inj this).1.symm, (Prod.mk.inj this).2.symm⟩
        obtain ⟨rfl, rfl⟩ := ek
        have tk : outs (L.take (i + 1)) v = outs (L.take i) v ++ (if a = v ∧ 0 < n then [b] else []) := by
          unfold outs
          rw [List.take_add_one, hL, List.filterMap_append]
          congr 1
          simp only [Option.toList_some, List.filterMap_cons, List.filterMap_nil]
          split <;> rename_i h <;> split at h <;> simp_all
        have ol : (outs (L.take i) v).length ≤ i := by
          unfold outs
          refine Nat.le_trans (List.length_filterMap_le _ _) ?_
          rw [List.length_take]; omega
        refine ⟨qq, [.str a, .str b], rfl, SqT.of hq, rfl, _, _, rfl, _, _, rfl, rfl, rfl, ?_⟩
        have hp2 := s2 _ _ hpL
        refine ⟨_, rfl, _, rfl, _, rfl, p, _, _, .str v, rfl, rfl, SqL.of hp2, atI_end hlast, rfl, _, rfl, ?_⟩
        refine ite2 (fun h => ?_) (fun h => ?_)
        · have e1 : a = v := str_dec.mp h
          refine ⟨_, rfl, _, rfl, _, rfl, le2, fun tp ntp => ?_⟩
          have s3 : Same (upd H1 d (.frz od (.dT (dT2 (nI L))))) (upd H2 tp (.tup [.str a, .str b])) := s2.trans (same_new ntp)
          refine ⟨d, .int n, rfl, .inr ⟨dT2 (nI L), kT (a, b), tp, .inr ⟨od, s3 _ _ upd_same⟩, rfl, upd_same, ?_⟩, _, _, rfl, rfl, _, rfl, ?_⟩
          · exact (dT2_get (by rw [nI_keys]; exact knd) (nI_mem (List.mem_of_getElem? hL))).symm
          · have hl3 : upd H2 tp (.tup [.str a, .str b]) D = some (.lst ((outs (L.take i) v).map V.str)) := same_new ntp _ _ hl
            refine ite2 (fun h2 => ?_) (fun h2 => ?_)
            · have h2' : 0 < n := of_decide_eq_true h2
              refine ⟨_, rfl, _, hl3, small (by rw [List.length_map]; omega), same_own s3 nD, ?_⟩
              rw [upd_same, tk, if_pos ⟨e1, h2'⟩, List.map_append]; rfl
            · have h2' : ¬ 0 < n := fun z => h2 (decide_eq_true z)
              refine ⟨s3, ?_⟩
              rw [tk, if_neg fun z => h2' z.2, List.append_nil]; exact hl3
        · have e1 : ¬ a = v := fun z => h (str_dec.mpr z)
          refine ⟨s2, ?_⟩
          rw [tk, if_neg fun z => e1 z.1, List.append_nil]; exact hl
      · obtain ⟨s2, hl⟩ := p'
        rw [hn, List.take_length] at hl
        refine ⟨s2 _ _ upd_same, ?_⟩
        have s3 := same_unlock hd1 s2
        obtain ⟨b0, hb0⟩ := ar.G.next h0 lo hv hge hin
        refine ⟨D, outs L v, rfl, SqL.of (by rw [upd_ne neD]; exact hl), (fun e => by have := mem_outs.mpr hb0; rw [e] at this; cases this), fun z hz => ?_⟩
        have hz' := mem_outs.mp hz
        have lt := ar.G.phi_lt lo hz'
        have nn := ar.G.phi_nonneg (fl (names N) σ m) z
        obtain ⟨l, hadj⟩ := hz'.adj lo
        refine ⟨p, _, _, rfl, rfl, s3 _ _ hp1, small (by rw [List.length_map]; omega), ?_⟩
        refine ⟨(phi E σ (fl (names N) σ m) z).toNat, by omega, ws ++ [z], z, _, _, rfl, same_own (s1.trans s3) np, by rw [upd_same, List.map_append]; rfl, .snoc W hz', (ar.G.adj_mem hadj).2, by omega, ?_, .inr ⟨v, hz'⟩⟩
        rw [List.length_append, List.length_singleton]; omega
    · have hlt : m v < 0 := by
        have : ¬ 0 ≤ m v := fun z => hlt (decide_eq_true z)
        omega
      exact ⟨_, rfl, q H1 p ws v s1 np hp1 W hv hlt (by omega)⟩
end
end K59

set_option Elab.async false
set_option linter.all false
set_option maxRecDepth 100000
set_option maxHeartbeats 2000000
/-! any(test of n for n in d.values()), d a dict with keys that are tuples, its values whole numbers; after HandS.AnyAll's rule for texts. -/
namespace K59
open PySem PySem.Spec PyProof.Rows L2 GxR
/-- the element: a test of the number n -/
def EltN (prog : Program) (w : World) (scope : Scope) (x : Str) (elt : Expr) (pb : Int → Bool) : Prop :=
  ∀ (cenv : Env) (A' : Around) (E' : Value → Shared → Prop) (n : Int) (t : Tok) (s₂ : Shared) (m₂ : Str → Option Value), cenv.scope = scope → s₂.heap.Ns cenv.locals m₂ → m₂ x = some (.int n t) →
    wpAny (model prog w) A' (eval elt cenv) (fun y s₃ => y = .bool (pb n) ∧ Keeps s₂ s₃) E' s₂
theorem elt_gt {prog : Program} {w : World} {scope : Scope} {x : Str} {k : Int} {j : Nat} {p1 p2 p3 : Pos} (hk : scope.kind = .function) (hl : scope.names.lookup x = some .local) (hd : (x == ("__debug__" : Str)) = false := by decide) :
    EltN prog w scope x (.Compare (.Name x p1) [.Gt] [.Constant (.int k) j p2] p3) (fun n => decide (k < n)) := by
  intro cenv A' E' n t s₂ m₂ hs hn hm
  refine wpAny_Compare1 ?_
  refine wpAny_Name (wpAny_loadName_local (by rw [hs]; exact hk) (show cenv.scope.names.lookup x = some .local by rw [hs]; exact hl) hn hm ?_) hd
  refine wpAny_Constant_int ?_
  exact gt_int ⟨rfl, keeps_tok _ _⟩
/-- the truth of the j-th turn -/
def trN (pb : Int → Bool) (l : List Int) (j : Nat) : Bool := (l[j]?).any pb
theorem trN_some {pb : Int → Bool} {l : List Int} {j : Nat} {b : Int} (h : l[j]? = some b) : trN pb l j = pb b := congrArg (Option.any pb) h
theorem any_trN (pb : Int → Bool) : ∀ l : List Int, (List.range l.length).any (trN pb l) = l.any pb
  | [] => rfl
  | b :: l => by rw [List.length_cons, List.range_succ_eq_map, List.any_cons, List.any_map, List.any_cons, ← any_trN pb l]; rfl
/-- an address that is taken is none of the new ones -/
theorem old_ne {b : Addr} {n : Nat} (h : (b : Nat) < n) (k : Nat) : b ≠ (n + k : Nat) := Nat.ne_of_lt (Nat.lt_of_lt_of_le h (Nat.le_add_right n k))
/-- a generator expression's code object: the one that the table has, or a new one behind it -/
theorem code_known {prog : Program} {w : World} {A : Around} {E : Value → Shared → Prop} {Q : Value → Shared → Prop} {env : Env} {c P : Addr} {ps : Array Value} {pos : Pos} {q : Str} {scope : Scope} {s : Shared} (hc : env.code = .ref c) (cd : PySem.W.CodeHd s.heap c P)
    (hP : s.heap.get? P = some { cls := .none, data := .fields ps }) (ht : TriplesOk ps.toList)
    (h : ∀ code h' tk more, Heap.ExtBut P s.heap h' → s.heap.objs.size ≤ h'.objs.size → h'.get? P = some { cls := .none, data := .fields (ps ++ more) } → TriplesOk (ps ++ more).toList → Q code { s with heap := h', toks := tk }) :
    wpAny (model prog w) A (genexprCode env pos q scope) Q E s := by
  by_cases known : ∃ cv, codeAmong pos ps.toList = some cv
  · obtain ⟨cv, hk⟩ := known
    exact wpAny_genexprCode_hit hc (cd.code hP ht) hk (h cv s.heap s.toks #[] (Heap.ExtBut.refl _ _) (Nat.le_refl _) (by rw [Array.append_empty]; exact hP) (by rw [Array.append_empty]; exact ht))
  · have hk : codeAmong pos ps.toList = none := Option.eq_none_iff_forall_ne_some.mpr fun cv e => known ⟨cv, e⟩
    refine wpAny_genexprCodeX hc (cd.code hP ht) (cd.tab hP) hk fun c' h' tk hx lo hi made _ tab _ => h (.ref c') h' tk _ hx (Nat.le_trans lo (Nat.le_of_lt hi)) tab.2 ?_
    obtain ⟨_, _, _, _, _, _, _, _, _, _, _, _, _, _, _, _, _, _, _, ok, _⟩ := made
    exact ok
section
variable {X : Cx} {pins : List (Addr × Obj)} {σ : L2.St} {H : Hp} {s : Shared}
/-- the generator g over the numbers ns, ready to be walked, in the state s5; H1: what was held before -/
def ReadyN (X : Cx) (pins : List (Addr × Obj)) (σ : L2.St) (H1 : Hp) (P : Addr) (ns : List Int) (pb : Int → Bool) (g : Addr) (s5 : Shared) : Prop :=
  ∃ (fp wr : List Addr) (G : Array GenState → Array GenState → Prop) (F : Nat → Value → Prop) (St : Nat → Shared → Prop),
    WalksS X.prog X.w X.A.in1 g fp wr G ns.length F St ∧ St 0 s5 ∧
    TruthOf X.prog X.w X.A.in1 F (trN pb ns) ∧
    ∀ s', Moved wr G s5 s' → ∃ H2, Tabbed P H1 H2 ∧ Inv X pins σ H2 s'
theorem dT_raw (I : Inv X pins σ H s) {d : Addr} {kvs : List (List Key × V)} {ns : List Int} (h : H d = some (.dT kvs)) (hns : kvs.map (·.2) = ns.map V.int) :
    (d == sysModules) = false ∧ ∃ es ep, s.heap.DictRaw d es ep ∧ es.size = ns.length ∧ ∀ i (hi : i < es.size), ∃ n t, ns[i]? = some n ∧ es[i].val = .int n t := by
  obtain ⟨z, hd, xs, pr, o, es, ep, ho, hx, hdt, he, nd⟩ := I.hok d _ h
  have hl : kvs.length = xs.length := Paired.length pr
  have hl2 : kvs.length = ns.length := by have := congrArg List.length hns; rw [List.length_map, List.length_map] at this; exact this
  have hsz : es.size = xs.length := by rw [← Array.length_toList, he, List.length_map]
  refine ⟨hd, es, ep, ⟨o, ho, hx, hdt⟩, by omega, fun i hi => ?_⟩
  obtain ⟨⟨k, v⟩, hkv⟩ : ∃ p, kvs[i]? = some p := ⟨_, List.getElem?_eq_getElem (by omega)⟩
  obtain ⟨⟨k', b, u⟩, hxu, _, _, ru⟩ := paired_at pr hkv
  have hv : (kvs.map (·.2))[i]? = some v := by rw [List.getElem?_map, hkv]; rfl
  rw [hns, List.getElem?_map] at hv
  cases hn : ns[i]? with
  | none => rw [hn] at hv; cases hv
  | some n =>
    rw [hn] at hv
    have hv' : V.int n = v := Option.some.inj hv
    subst hv'
    obtain ⟨t, hu⟩ : ∃ t, u = Value.int n t := ru
    refine ⟨n, t, rfl, ?_⟩
    have e1 : es.toList[i]? = some (entryOfKey (tupleKind (mixKind X.prog X.w)) (k', b, u)) := by rw [he, List.getElem?_map, hxu]; rfl
    rw [Array.getElem?_toList, Array.getElem?_eq_getElem hi] at e1
    rw [Option.some.inj e1, ← hu]; rfl
theorem gen_vals {c P : Addr} {elt e : Expr} {x : Str} {px gpos apos cpos : Pos} {scope : Scope} {pb : Int → Bool} {te : TE} {k : Nat} {Q' : Value → Shared → Prop} {R : List Int → Hp → Prop}
    (hr : Room k X.A) (TB : TabB X.base X.mg c P) (hcode : X.env.code = .ref c) (S : GenS X.env scope x) (hi : PE X e te) (hel : EltN X.prog X.w scope x elt pb)
    (hbase : attributeBase e "values" X.env (eval e X.env) = eval e X.env) (hline : (apos.endLine == cpos.line) = true)
    (hs : ∀ v, genFold (.Call (.Attribute e "values" apos) [] [] cpos) X.env v = pure v) (I : Inv X pins σ H s) (h : te σ H fun v H1 => ∃ (d : Addr) (kvs : List (List Key × V)) (ns : List Int), v = .ref d ∧ H1 d = some (.dT kvs) ∧ kvs.map (·.2) = ns.map V.int ∧ TabG H1 P ∧ R ns H1)
    (hQ : ∀ ns H1 g s5, R ns H1 → ReadyN X pins σ H1 P ns pb g s5 → Q' (.ref g) s5) :
    wpAny (model X.prog X.w) X.A (eval (.GeneratorExp elt [⟨.Name x px, .Call (.Attribute e "values" apos) [] [] cpos, [], 0⟩] scope gpos) X.env) Q' X.xe s := by
  refine wpAny_GeneratorExp_walksQ hr.hd S.co (closure_ok S.free) S.cell S.dot S.loc S.kind (by have := hr.dp; omega) ?_ hs
  refine wpAny_Call_method (T := "dict") (id := "dict.values") hbase rfl hline F.plainAttrs_dict F.slot_dict_values F.type_dict_values (thn (hi.run pins s σ H _ I h) fun u s1 ⟨v, H1, I1, r1, q1⟩ => ?_)
  obtain ⟨d, kvs, ns, rfl, hdT, hns, ⟨ps, hP, ht⟩, q1⟩ := q1
  obtain rfl : u = Value.ref d := r1
  obtain ⟨hsys, es, ep, raw, hsz, hval⟩ := dT_raw I1 hdT hns
  have hdlt : d < s1.heap.objs.size := let ⟨o, ho, _⟩ := raw; Heap.lt_size ho
  have hPs : s1.heap.get? P = some { cls := .none, data := .fields ps } := I1.hok P _ hP
  have hdP : d ≠ P := fun z => by rw [z, hP] at hdT; cases hdT
  refine ⟨raw.typeIs, fun b q => ?_, ?_⟩
  · cases q
    obtain ⟨ob, h1, h2, _⟩ := raw
    exact ⟨ob, h1, h2.2.1⟩
  show wpAny _ _ (callWith cpos (.builtin "dict.values") [.ref d] [] []) _ X.xe s1
  refine method_meetsIn F.slot_dict_values F.entry_dict_values rfl (PySem.evalArgs_none ⟨rfl, raw.typeIs, F.args_dict_values_1 _, _, meets_dict_values_raw d hsys, ⟨es, ep, raw⟩, ?_⟩)
  -- the view, its iterator
  generalize hv1 : ({ cls := .type "dict_values", data := .fields #[.ref d] } : Obj) = view
  have raw1 : (s1.heap.push view).DictRaw d es ep := raw.at fun o ho => Heap.get?_push_of_some _ ho
  refine wpAny_pyIter_values_raw (d := d) ⟨view, Heap.get?_push_size _ (by rw [← hv1]; rfl), by rw [← hv1], by rw [← hv1]⟩ raw1 ?_
  have szI : (s1.heap.push view).objs.size = s1.heap.objs.size + 1 := Heap.size_push ..
  generalize ho : ({ cls := .type "dict_valueiterator", data := .fields #[.ref d, .int 0 0, .int es.size 0, .int ep 0] } : Obj) = o
  have hst0 : ((s1.heap.push view).push o).IsValIter (s1.heap.objs.size + 1) d 0 es.size ep := ⟨o, by rw [← szI]; exact Heap.get?_push_size _ (by rw [← ho]; rfl), by rw [← ho], by rw [← ho]; rfl⟩
  have raw2 : ((s1.heap.push view).push o).DictRaw d es ep := raw1.at fun o ho => Heap.get?_push_of_some _ ho
  have keep2 : ∀ b u, s1.heap.get? b = some u → ((s1.heap.push view).push o).get? b = some u := fun b u e => Heap.get?_push_of_some _ (Heap.get?_push_of_some _ e)
  have hPlt : P < s1.heap.objs.size := Heap.lt_size hPs
  have hP2 : ((s1.heap.push view).push o).get? P = some { cls := .none, data := .fields ps } := keep2 _ _ hPs
  have cd : PySem.W.CodeHd ((s1.heap.push view).push o) c P := TB.code.keeps fun b u e => keep2 _ _ (I1.bk b u e)
  have lim2 : ((s1.heap.push view).push o).NoLimit := (I1.nolimit.push view).push o
  have sz2 : ((s1.heap.push view).push o).objs.size = s1.heap.objs.size + 2 := by rw [Heap.size_push, szI]
  have hneI : d ≠ s1.heap.objs.size + 1 := fun z => by have h9 : (d : Nat) < s1.heap.objs.size := hdlt; rw [z] at h9; exact absurd h9 (by show ¬ ((s1.heap.objs.size + 1 : Nat) < s1.heap.objs.size); omega)
  rw [szI]
  generalize hh2 : (s1.heap.push view).push o = h2 at hst0 raw2 keep2 hP2 cd lim2 sz2 ⊢
  clear hh2
  have taken : ∀ {b : Addr} {u : Obj}, s1.heap.get? b = some u → (b : Nat) < s1.heap.objs.size := fun e => Heap.lt_size e
  refine ⟨lim2, code_known (s := { s1 with heap := h2 }) hcode cd hP2 ht fun code h3 tk more hx hsz3 hP3 ht3 => ?_⟩
  have keep3 : ∀ b u, b ≠ P → s1.heap.get? b = some u → h3.get? b = some u := fun b u hb e => hx b u hb (keep2 _ _ e)
  have hIP : (s1.heap.objs.size + 1 : Nat) ≠ P := (old_ne hPlt 1).symm
  obtain ⟨mc, nsc, _⟩ := id I1.nolimit
  have hcP : cStatics ≠ P := fun e => by
    obtain ⟨u, es1, _, hu, du, _⟩ := nsc
    rw [e] at hu
    cases hPs.symm.trans hu
    cases du
  obtain ⟨bm, ob, b1, b2, b3, b4, b5, b6, b7, b8⟩ := TB.bm
  refine wpAny_builtinsFor (m := X.mg) (by rw [I1.ok.glob]; exact Heap.Ns.extBut (Heap.Ns.keeps (I1.mod.glob.keeps I1.bk) fun b u e => keep2 b u e) hx TB.gP) b1 b2 (keep3 _ _ b4 (I1.bk _ _ b5)) b6 b7 b8 ?_
  -- the values' iterator, its marks, and what a turn gives
  refine ⟨s1.heap.objs.size + 1, [s1.heap.objs.size + 1, d], [s1.heap.objs.size + 1], es.size, fun i v => ∃ hi : i < es.size, v = es[i].val, fun i h => h.IsValIter (s1.heap.objs.size + 1) d i es.size ep ∧ h.DictRaw d es ep, fun _ => true, fun i y => ∃ n, ns[i]? = some n ∧ y = .bool (pb n), rfl,
    fun A' hA' => Walks.rawValues hA' _ d hneI es ep, ⟨hst0.at fun o e => hx _ o hIP e, raw2.at fun o e => hx _ o hdP e⟩, fun b hb => ?_, lim2.extBut hx hcP, fun z => old_ne nsc.lt 1 (List.mem_singleton.mp z), fun href _ => ⟨fun _ _ _ _ s₂ _ _ _ _ _ _ => ?_, fun A' E' i v s₂ m₂ _ val _ loc at' _ => ?_⟩, fun g h5 tk5 gs bare _ _ keep5 W5 here => ?_⟩
  · have sz3 : s1.heap.objs.size + 2 ≤ h3.objs.size := by rw [← sz2]; exact hsz3
    rcases List.mem_cons.mp hb with rfl | hd'
    · exact sz3
    · cases List.mem_singleton.mp hd'
      exact Nat.lt_of_lt_of_le hdlt (Nat.le_trans (Nat.le_add_right _ 2) sz3)
  · exact wpAny_pure ⟨rfl, keeps_refl s₂⟩
  · obtain ⟨hi, rfl⟩ := val
    obtain ⟨n, t, hn, ev⟩ := hval i hi
    exact wpAny_mono (hel _ A' E' n t s₂ m₂ rfl loc (at'.trans (congrArg some ev))) (fun _ _ r => ⟨⟨n, hn, r.1⟩, r.2⟩) fun _ _ r => r
  · rw [GxR.passing_true, List.length_range] at W5
    rw [hsz] at W5 here
    refine hQ ns H1 g _ q1 ⟨_, _, _, _, _, W5.in4_1, here, fun j y sj Qj Ej hy hQj => ?_, fun s' mv => ?_⟩
    · obtain ⟨i, hij, n, hn, rfl⟩ := hy
      have ei : j = i := by
        obtain ⟨hj, e⟩ := List.getElem?_eq_some_iff.mp hij
        exact (List.getElem_range hj).symm.trans e
      rw [← ei] at hn
      rw [trN_some hn] at hQj
      exact wpAny_truthy_bool hQj
    · -- what stood stands, but for the table
      have out : ∀ {b : Addr} {u : Obj}, s1.heap.get? b = some u → b ∉ h3.objs.size :: [(s1.heap.objs.size + 1 : Nat)] := fun {b u} e hb => by
        have lt := taken e
        rcases List.mem_cons.mp hb with z | z
        · exact Nat.lt_irrefl _ (Nat.lt_of_lt_of_le (Nat.lt_of_lt_of_le lt (show s1.heap.objs.size ≤ h2.objs.size by rw [sz2]; exact Nat.le_add_right _ 2)) (z ▸ hsz3))
        · exact old_ne lt 1 (List.mem_singleton.mp z)
      have J := inv_tab (more := more) (h' := s'.heap) (g' := s'.gens) (d' := s'.drawn) (t' := s'.toks) I1 hP (fun b u hb e => mv.heap b u (out e) (keep5 b u (keep3 b u hb e))) (mv.heap P _ (out hPs) (keep5 P _ hP3)) ((I1.bare.push bare).movedS mv)
      exact ⟨upd H1 P (.tbl (ps ++ more)), ⟨⟨_, upd_same, ht3⟩, fun b hb => upd_ne hb⟩, sh_eta s1 s' mv.os ▸ J⟩
/-- any(test for x in d.values()) -/
def tAnyV (P : Addr) (pb : Int → Bool) (te : TE) : TE := fun σ H Q => te σ H fun v H1 => ∃ (d : Addr) (kvs : List (List Key × V)) (ns : List Int), v = .ref d ∧ H1 d = some (.dT kvs) ∧ kvs.map (·.2) = ns.map V.int ∧ TabG H1 P ∧ ∀ H2, Tabbed P H1 H2 → Q (.bl (ns.any pb)) H2
theorem pe_anyV {c P : Addr} {elt e : Expr} {x : Str} {px p pos gpos apos cpos : Pos} {scope : Scope} {pb : Int → Bool} {te : TE} {k : Nat}
    (hr : Room k X.A) (hg : Gl X "any") (hm : X.mg "any" = none) (TB : TabB X.base X.mg c P) (hcode : X.env.code = .ref c) (S : GenS X.env scope x) (hi : PE X e te) (hel : EltN X.prog X.w scope x elt pb)
    (hbase : attributeBase e "values" X.env (eval e X.env) = eval e X.env := by rfl) (hline : (apos.endLine == cpos.line) = true := by rfl)
    (hs : ∀ v, genFold (.Call (.Attribute e "values" apos) [] [] cpos) X.env v = pure v := by intro _; rfl)
    (he : starEach [.GeneratorExp elt [⟨.Name x px, .Call (.Attribute e "values" apos) [] [] cpos, [], 0⟩] scope gpos] X.env = (false, eval (.GeneratorExp elt [⟨.Name x px, .Call (.Attribute e "values" apos) [] [] cpos, [], 0⟩] scope gpos) X.env) :: starEach [] X.env := by rfl) :
    PE X (.Call (.Name "any" p) [.GeneratorExp elt [⟨.Name x px, .Call (.Attribute e "values" apos) [] [] cpos, [], 0⟩] scope gpos] [] pos) (tAnyV P pb te) := by
  refine ⟨fun pins s σ H Q I h => ?_⟩
  refine wpAny_Call_Name_kw (ld_blt I hg hm boot_any ?_)
  refine PyProof.Rows.callWith_builtin1 ?_ he (by rfl)
  rw [he]
  show wpAny _ _ (spliced ((false, eval (.GeneratorExp elt [⟨.Name x px, .Call (.Attribute e "values" apos) [] [] cpos, [], 0⟩] scope gpos) X.env) :: backTo pos (starEach [] X.env))) _ _ s
  refine Calls.spliced_cons (gen_vals (R := fun ns H1 => ∀ H2, Tabbed P H1 H2 → Q (.bl (ns.any pb)) H2) hr TB hcode S hi hel hbase hline hs I h fun ns H1 g s5 hR hG => ?_)
  obtain ⟨_, _, _, F, St, W, start, truth, back⟩ := hG
  refine Calls.spliced_nil (call_any_walkS (W.self 0 _ _ _ start ⟨g, _, _, _, _, F, St, _, rfl, W, start, truth, fun s' mv => ?_⟩))
  obtain ⟨H2, tabbed, J⟩ := back s' mv
  exact ⟨.bl _, H2, J, rfl, any_trN pb ns ▸ hR H2 tabbed⟩
end
end K59

set_option Elab.async false
set_option linter.all false
set_option maxRecDepth 100000
set_option maxHeartbeats 2000000
namespace K59
open PySem PySem.Spec PyProof.Rows L2 GxR
/-! ### all that stood stands, but for the table at P -/
def SameB (P : Addr) (H H' : Hp) : Prop := ∀ b o, b ≠ P → H b = some o → H' b = some o
theorem SameB.refl (P : Addr) (H : Hp) : SameB P H H := fun _ _ _ h => h
theorem SameB.trans {P : Addr} {H H1 H2 : Hp} (a : SameB P H H1) (b : SameB P H1 H2) : SameB P H H2 := fun c o n h => b c o n (a c o n h)
theorem SameB.of {P : Addr} {H H1 : Hp} (a : Same H H1) : SameB P H H1 := fun c o _ h => a c o h
theorem SameB.tab {P : Addr} {H H1 : Hp} (a : Tabbed P H H1) : SameB P H H1 := fun c o n h => by rw [a.2 c n]; exact h
theorem sameB_own {P : Addr} {H0 H : Hp} {p : Addr} {o : HO} (s : SameB P H0 H) (h : H0 p = none) : SameB P H0 (upd H p o) := fun b u n e => by
  rw [upd_ne (ne_of_none e h)]; exact s b u n e
theorem SameB.free {P : Addr} {H H' : Hp} (e : SameB P H H') {l : Addr} (h : H' l = none) (n : l ≠ P) : H l = none := by
  cases q : H l with
  | none => rfl
  | some o => rw [e l o n q] at h; cases h
theorem tabG_ne {H : Hp} {P b : Addr} {o : HO} (t : TabG H P) (h : H b = some o) (n : ∀ ps, o ≠ .tbl ps) : b ≠ P := fun e => by
  obtain ⟨ps, hp, _⟩ := t
  rw [e, hp] at h
  exact n ps (Option.some.inj h).symm
theorem tabG_free {H : Hp} {P b : Addr} (t : TabG H P) (h : H b = none) : b ≠ P := fun e => by
  obtain ⟨ps, hp, _⟩ := t
  rw [e, hp] at h; cases h
theorem TabG.same {H H' : Hp} {P : Addr} (t : TabG H P) (s : Same H H') : TabG H' P := let ⟨ps, h, k⟩ := t; ⟨ps, s _ _ h, k⟩
theorem TabG.upd {H : Hp} {P p : Addr} {o : HO} (t : TabG H P) (n : p ≠ P) : TabG (upd H p o) P := let ⟨ps, h, k⟩ := t; ⟨ps, by rw [upd_ne n.symm]; exact h, k⟩
theorem SameB.tstay {P : Addr} {H H' : Hp} (s : SameB P H H') (t : TabG H P) : TStay H H' := fun b xs h => s b _ (tabG_ne t h fun ps e => nomatch e) h
/-! ### bounds -/
theorem ab_le {a c : Int} (h1 : a ≤ c) (h2 : -a ≤ c) : ab a ≤ c := by unfold ab; omega
theorem Good.fl_le {ns : List Str} {E : List Ed'} {σ : Ed' → Str → Int} (G : Good ns E σ) (m : Str → Int) {e : Ed'} (he : e ∈ E) : ab (fl ns σ m e) ≤ sm ns fun x => ab (m x) := by
  have h1 : fl ns σ m e ≤ sm ns fun x => ab (m x) := sm_le fun x _ => by rcases G.bin e he x with h | h <;> rw [h] <;> unfold ab <;> omega
  have h2 : - fl ns σ m e ≤ sm ns fun x => ab (m x) := by
    have e1 : - fl ns σ m e = sm ns fun x => (-1) * (σ e x * m x) := by rw [sm_mul]; show - fl ns σ m e = -1 * fl ns σ m e; omega
    rw [e1]
    exact sm_le fun x _ => by rcases G.bin e he x with h | h <;> rw [h] <;> unfold ab <;> omega
  exact ab_le h1 h2
theorem sum_le {F : List (Str × Int)} (h : ∀ q ∈ F, 0 ≤ q.2 ∧ q.2 ≤ 999) : sm F (fun q => q.2) ≤ (F.length : Int) * 999 := by
  induction F with
  | nil => rw [sm_nil]; simp
  | cons q F ih =>
    have := ih fun x hx => h x (List.mem_cons_of_mem _ hx)
    have := h q List.mem_cons_self
    rw [sm_cons, List.length_cons]; omega
theorem val_nonneg {F : List (Str × Int)} (h : ∀ q ∈ F, 0 ≤ q.2 ∧ q.2 ≤ 999) (v : Str) : 0 ≤ val F v := sm_nonneg fun q hq => by have := h q hq; split <;> omega
theorem LdOk.flow_le {N : List (Str × Int)} {E : List Ed'} {σ : Ed' → Str → Int} {F S : List (Str × Int)} (ld : LdOk N F S) (ar : Arb N E σ) : sm E (fun e => ab (fo N σ F S e)) ≤ 2397600 := by
  have nd : (names N).Nodup := ar.G.nd
  have b1 : ∀ e ∈ E, ab (fo N σ F S e) ≤ 199800 := fun e he => by
    have h1 := Good.fl_le (ns := names N) ar.G (mo F S) he
    have h2 : sm (names N) (fun x => ab (mo F S x)) ≤ sm (names N) fun x => val F x + val S x := sm_le fun x _ => by
      have a := val_nonneg ld.fb x
      have b := val_nonneg ld.sb x
      unfold mo ab; omega
    rw [sm_add, sm_val1 nd ld.f, sm_val1 nd ld.s] at h2
    have a := sum_le ld.fb
    have b := sum_le ld.sb
    have c := ld.fl
    have d := ld.sl
    have h1' : ab (fo N σ F S e) ≤ sm (names N) fun x => ab (mo F S x) := h1
    omega
  have key : ∀ l : List Ed', (∀ e ∈ l, e ∈ E) → sm l (fun e => ab (fo N σ F S e)) ≤ (l.length : Int) * 199800 := fun l => by
    induction l with
    | nil => intro _; rw [sm_nil]; simp
    | cons e l ih =>
      intro h
      have := ih fun x hx => h x (List.mem_cons_of_mem _ hx)
      have := b1 e (h e List.mem_cons_self)
      rw [sm_cons, List.length_cons]; omega
  have := key E fun e he => he
  have e12 := ar.e12
  omega
/-! ### steps, what is taken from the flow -/
def StAt (H : Hp) (v : V) (q : Str × Str) : Prop := ∃ a, v = .ref a ∧ H a = some (.tup [.str q.1, .str q.2])
theorem StAt.stay {H H' : Hp} {v : V} {q : Str × Str} (h : StAt H v q) (s : TStay H H') : StAt H' v q := let ⟨a, e, q⟩ := h; ⟨a, e, s _ _ q⟩
theorem sts_stay {H H' : Hp} {vs : List V} {F : List (Str × Str)} (h : Paired (StAt H) vs F) (s : TStay H H') : Paired (StAt H') vs F := h.mono fun _ _ q => q.stay s
theorem less_keys (L : List ((Str × Str) × Int)) (k : Int) (st : List (Str × Str)) : (less L k st).map (·.1) = L.map (·.1) := by unfold less; rw [List.map_map]; rfl
theorem less_val {L : List ((Str × Str) × Int)} {k : Int} {st : List (Str × Str)} {q : Str × Str} {n : Int} (nd : (L.map (·.1)).Nodup) (h : (q, n) ∈ L) : (q, n - k * cnt q st) ∈ less L k st := List.mem_map.mpr ⟨_, h, rfl⟩
theorem less_step {L : List ((Str × Str) × Int)} {k n : Int} {st : List (Str × Str)} {q : Str × Str} (nd : (L.map (·.1)).Nodup) (h : (q, n) ∈ L) :
    (nI (less L k st)).map (fun p => (p.1, if p.1 = q then V.int (n - k * cnt q st - k) else p.2)) = nI (less L k (st ++ [q])) := by
  unfold nI less
  rw [List.map_map, List.map_map, List.map_map]
  refine List.map_congr_left fun p hp => ?_
  show (p.1, if p.1 = q then V.int (n - k * cnt q st - k) else V.int (p.2 - k * cnt p.1 st)) = (p.1, V.int (p.2 - k * cnt p.1 (st ++ [q])))
  have c : cnt p.1 (st ++ [q]) = cnt p.1 st + if q = p.1 then 1 else 0 := by unfold cnt; rw [sm_append, sm_cons, sm_nil, Int.add_zero]
  rw [c]
  by_cases e : p.1 = q
  · have : p.2 = n := by
      have h2 : (q, p.2) ∈ L := by rw [← e]; exact hp
      have a := val_mem nd h
      have b := val_mem nd h2
      omega
    rw [if_pos e, if_pos e.symm, this, e, Int.mul_add]; congr 2; omega
  · rw [if_neg e, if_neg fun z => e z.symm, Int.add_zero]
theorem less_nil (L : List ((Str × Str) × Int)) (k : Int) : less L k [] = L := by
  unfold less
  have : (fun p : (Str × Str) × Int => (p.1, p.2 - k * cnt p.1 [])) = id := by
    funext p; show (p.1, p.2 - k * 0) = p; rw [Int.mul_zero, Int.sub_zero]
  rw [this, List.map_id]
theorem nI_snd (L : List ((Str × Str) × Int)) : (dT2 (nI L)).map (·.2) = (L.map (·.2)).map V.int := by
  unfold dT2 nI; rw [List.map_map, List.map_map, List.map_map]; rfl
theorem put_gone (m : Str → Int) {s t : Str} (k : Int) (h : s ≠ t) (x : Str) : put (put m s (m s - k)) t (m t + k) x = m x - gone s t k x := by
  unfold put gone
  by_cases e1 : x = t
  · have e2 : ¬ x = s := fun z => h (z.symm.trans e1)
    rw [if_pos e1, if_neg e2, if_pos e1, e1]; omega
  · by_cases e2 : x = s
    · rw [if_neg e1, if_pos e2, if_pos e2, if_neg e1, e2]; omega
    · rw [if_neg e1, if_neg e2, if_neg e2, if_neg e1]; omega
end K59

set_option Elab.async false
set_option linter.all false
set_option maxRecDepth 100000
set_option maxHeartbeats 4000000
namespace K59
open PySem PySem.Spec PyProof.Rows L2 GxR
/-- the moves bring the one load to what m has left -/
structure MvOk (N : List (Str × Int)) (E : List Ed') (σ : Ed' → Str → Int) (F S : List (Str × Int)) (m : Str → Int) (M : List (Str × Str × Int)) : Prop where
  mem : ∀ x ∈ M, x.1 ∈ names N ∧ x.2.1 ∈ names N ∧ 0 < x.2.2
  mov : ∀ v ∈ names N, mo F S v - m v = sm M fun p => p.2.2 * ((if p.1 = v then 1 else 0) - (if p.2.1 = v then 1 else 0))
  pay : sm M (fun p => p.2.2 * dist E σ p.1 p.2.1) + sm E (fun e => e.2.2 * ab (fl (names N) σ m e)) = sm E fun e => e.2.2 * ab (fo N σ F S e)
/-- the state between two turns -/
structure PlSt (P : Addr) (N : List (Str × Int)) (E : List Ed') (σ : Ed' → Str → Int) (F S : List (Str × Int)) (H0 : Hp) (mm d mv : Addr) (m : Str → Int) (L : List ((Str × Str) × Int)) (M : List (Str × Str × Int)) (H' : Hp) : Prop where
  same : SameB P H0 H'
  tab : TabG H' P
  hm : H' mm = some (.dK (dI (names N) m))
  hd : H' d = some (.dT (dT2 (nI L)))
  hv : ∃ xs, H' mv = some (.lst xs) ∧ Paired (TripAt H') xs M
  nd : (L.map (·.1)).Nodup
  l12 : L.length ≤ 12
  z : sm (names N) m = 0
  lo : LeftOk E (fl (names N) σ m) L
  mv : MvOk N E σ F S m M
def planInv (P : Addr) (t f s : V) (N : List (Str × Int)) (E : List Ed') (σ : Ed' → Str → Int) (F S : List (Str × Int)) (H0 : Hp) (mm d mv : Addr) (k : Nat) (σ' : L2.St) (H' : Hp) : Prop :=
  ∃ m L M x5 x6 x7 x9 x10 x11 x12 x13 x14, σ' = [some t, some f, some s, some (.ref mm), some (.ref d), x5, x6, x7, some (.ref mv), x9, x10, x11, x12, x13, x14] ∧ PlSt P N E σ F S H0 mm d mv m L M H' ∧
    (k : Int) = sm E (fun e => ab (fl (names N) σ m e)) ∧ M.length + k ≤ 2397600
def planFill (P : Addr) (t f s : V) (N : List (Str × Int)) (F S : List (Str × Int)) (H0 : Hp) (mm d : Addr) (p : Addr) (xs : List V) (A : List (Str × Str × Int)) (i : Nat) (σ' : L2.St) (H' : Hp) : Prop :=
  ∃ x5 x6 x7, σ' = [some t, some f, some s, some (.ref mm), some (.ref d), x5, x6, x7, none, none, none, none, none, none, none] ∧ Same H0 H' ∧ H' mm = some (.dK (dI (names N) (mo F S))) ∧ H' d = some (.dT (dT2 (nI ((A.take i).map keyed)))) ∧ H' p = some (.lst xs) ∧ Paired (TripAt H') xs A
def planTake (t f s : V) (mm d mv : Addr) (x5 x6 : Option V) (s0 : Str) (pw D : Addr) (x13 x14 : Option V) (H1 : Hp) (L : List ((Str × Str) × Int)) (k : Int) (st : List (Str × Str)) (i : Nat) (σ' : L2.St) (H' : Hp) : Prop :=
  (∃ x12, σ' = [some t, some f, some s, some (.ref mm), some (.ref d), x5, x6, some (.int k), some (.ref mv), some (.str s0), some (.ref pw), some (.ref D), x12, x13, x14]) ∧ (∀ b o, b ≠ d → H1 b = some o → H' b = some o) ∧ H' d = some (.dT (dT2 (nI (less L k (st.take i)))))
theorem PlSt.next {P : Addr} {N : List (Str × Int)} {E : List Ed'} {σ : Ed' → Str → Int} {F S : List (Str × Int)} {H0 : Hp} {mm d mv : Addr} {m : Str → Int} {L : List ((Str × Str) × Int)} {M : List (Str × Str × Int)} {H1 H2 : Hp}
    (St : PlSt P N E σ F S H0 mm d mv m L M H1) (s : SameB P H1 H2) (t : TabG H2 P) : PlSt P N E σ F S H0 mm d mv m L M H2 :=
  ⟨St.same.trans s, t, s _ _ (tabG_ne St.tab St.hm fun _ e => nomatch e) St.hm, s _ _ (tabG_ne St.tab St.hd fun _ e => nomatch e) St.hd,
    let ⟨xs, h, p⟩ := St.hv; ⟨xs, s _ _ (tabG_ne St.tab h fun _ e => nomatch e) h, trips_stay p (s.tstay St.tab)⟩, St.nd, St.l12, St.z, St.lo, St.mv⟩
theorem MvOk.more {N : List (Str × Int)} {E : List Ed'} {σ : Ed' → Str → Int} {F S : List (Str × Int)} {m : Str → Int} {M : List (Str × Str × Int)} (h : MvOk N E σ F S m M) {s t : Str} {k : Int} (hs : s ∈ names N) (ht : t ∈ names N) (hk : 0 < k)
    (e : sm E (fun e => e.2.2 * ab (fl (names N) σ m e)) = sm E (fun e => e.2.2 * ab (fl (names N) σ (fun x => m x - gone s t k x) e)) + k * dist E σ s t) : MvOk N E σ F S (fun x => m x - gone s t k x) (M ++ [(s, t, k)]) := by
  refine ⟨fun x hx => ?_, fun v hv => ?_, ?_⟩
  · rcases List.mem_append.mp hx with h1 | h1
    · exact h.mem x h1
    · rw [List.mem_singleton.mp h1]; exact ⟨hs, ht, hk⟩
  · have := h.mov v hv
    rw [sm_append, ← this, sm_cons, sm_nil]
    have g : gone s t k v = k * ((if s = v then 1 else 0) - (if t = v then 1 else 0)) := by
      have a1 : (if s = v then (1 : Int) else 0) = if v = s then 1 else 0 := by simp only [eq_comm]
      have a2 : (if t = v then (1 : Int) else 0) = if v = t then 1 else 0 := by simp only [eq_comm]
      unfold gone
      rw [a1, a2]
      split <;> split <;> omega
    show mo F S v - (m v - gone s t k v) = mo F S v - m v + (k * ((if s = v then 1 else 0) - (if t = v then 1 else 0)) + 0)
    rw [← g]; omega
  · have := h.pay
    rw [sm_append, sm_cons, sm_nil]
    show sm M _ + (k * dist E σ s t + 0) + _ = _
    omega
def pos (N : List (Str × Int)) (m : Str → Int) (i : Nat) : List Str := ((names N).take i).filter fun z => decide (0 < m z)
/-- a def whose code object is known -/
structure FunC (K : PySem.W.Frag) (x qual : Str) (st : Stmt) (f : Addr) (fd : FuncData) (c : Addr) : Prop where
  ex : ∃ (oc : Value) (od : Option Addr) (kV doc pm : Value) (an : Option Addr) (ct : Value) (osl : Array (Option Value)),
    fd = PySem.W.fnOf x qual (defArgs st) (defBody st) (defScope st) .none kV doc pm an (.ref c) ct ∧ K.lookup f = some ⟨oc, od, .func fd, osl⟩ ∧ PySem.W.codeIn K (.ref c) qual = true
theorem FunC.ok {P : Program} {w : World} {K : PySem.W.Frag} {mg : Str → Option Value} {base : Heap} {x qual : Str} {st : Stmt} {f c : Addr} {fd : FuncData} {N ps : List Str} {k : Nat} {sp : Sp} (F : FunC K x qual st f fd c) (S : FnScope N ps (defScope st)) (len : ∀ vs H Q E, sp vs H Q E → vs.length = ps.length)
    (hbody : ∀ (A : Around) (outer : List Env) (s : Shared) (H : Hp) (vs : List V) (Q : VK) (E : XK), Room k (A.deeper (envOfC qual (defScope st) s.heap.objs.size f (.ref c))) → sp vs H Q E →
      ∃ t, PSs (cxOf CX0 P w K mg base N qual (defScope st) f (.ref c) A outer s H E).nox (defBody st) t ∧ t { nx := fun _ H' => Q .non H', rt := Q } (L2.start N vs) H) : FnOk P w K mg base CX0 (k + 1) f fd ps sp := by
  obtain ⟨oc, od, kV, doc, pm, an, ct, osl, rfl, lk, hcd⟩ := F.ex
  refine fn_of lk hcd S len fun A outer s H vs Q E hr hsp => ?_
  obtain ⟨t, h, q⟩ := hbody A outer s H vs Q E hr hsp
  exact ⟨t, h.nox, q⟩
abbrev scopeN : List Str := ["some_tree", "first", "second", "more", "left", "one", "other", "number", "moves", "start", "way", "steps", "step", "name", "k"]
section
variable {P : Program} {w : World} {K : PySem.W.Frag} {mg : Str → Option Value} {base : Heap}
def spPlan (P : Addr) : Sp := fun vs H Q _ => ∃ (t f s : V) (N : List (Str × Int)) (E : List Ed') (σ : Ed' → Str → Int) (F S : List (Str × Int)), vs = [t, f, s] ∧ TreeAt H t N E ∧ Arb N E σ ∧ LoadAt H f F ∧ LoadAt H s S ∧ LdOk N F S ∧ TabG H P ∧
  ∀ H' p M xs, SameB P H H' → TabG H' P → H p = none → H' p = some (.lst xs) → Paired (TripAt H') xs M → MvOk N E σ F S (fun _ => 0) M → M.length ≤ 2397600 → Q (.ref p) H'
theorem ok_plan {c T : Addr} {f fX fL fW : Addr} {fd fdX fdL fdW : FuncData} (F : FunC K "plan" "plan" sPlan f fd c) (bl : Blt mg) (TB : TabB base mg c T)
    (GX : FnOk P w K mg base CX0 1 fX fdX ["some_tree", "first", "second"] spExc) (cX : Cal K mg "excess_of" fX fdX ["some_tree", "first", "second"])
    (GL : FnOk P w K mg base CX0 4 fL fdL ["some_tree", "first", "second"] spFlow) (cL : Cal K mg "flow" fL fdL ["some_tree", "first", "second"])
    (GW : FnOk P w K mg base CX0 1 fW fdW ["left", "more", "start"] spWay) (cW : Cal K mg "way_of" fW fdW ["left", "more", "start"]) : FnOk P w K mg base CX0 5 f fd ["some_tree", "first", "second"] (spPlan T) := by
  refine F.ok scPlan (fun vs H Q E h => ?_) (fun A outer s H vs Q E hr h => ?_)
  · obtain ⟨t, f, s, N, E, σ, F, S, rfl, _⟩ := h
    rfl
  · obtain ⟨t, fv, sv, N, E, σ, F, S, rfl, hT, ar, hf, hs, ld, tab, q⟩ := h
    have hu := hu_of hr
    have hr1 : Room 1 _ := hr.mono (by decide)
    refine ⟨_, pss_cons (ps_set (i := 3) scPlan.nd rfl (.inr rfl) (pe_call GX hr1 (by rfl) cX.m cX.kp cX.b .nil pass0 (pa_cons (pv 0) (pa_cons (pv 1) (pa_cons (pv 2) pa_nil)))))
      (pss_cons (ps_set (i := 4) scPlan.nd rfl (.inr rfl) pe_dnewT)
      (pss_cons (ps_for PassesOwn.never rfl (pi_list (pe_call GL hr (by rfl) cL.m cL.kp cL.b .nil pass0 (pa_cons (pv 0) (pa_cons (pv 1) (pa_cons (pv 2) pa_nil)))))
        (pg_tup rfl (pgs_cons (pg_name (i := 5) scPlan.nd rfl (.inl rfl)) (pgs_cons (pg_name (i := 6) scPlan.nd rfl (.inl rfl)) (pgs_cons (pg_name (i := 7) scPlan.nd rfl (.inl rfl)) pgs_nil))))
        (pss_one (ps_dput hu (pv 4) (pe_tup (pa_cons (pv 5) (pa_cons (pv 6) pa_nil))) (pv 7) rfl)))
      (pss_cons (ps_set (i := 8) scPlan.nd rfl (.inl rfl) (pe_lst pa_nil))
      (pss_cons (ps_while PassesOwn.never (pt_val (pe_anyV (pb := fun n => decide (0 < n)) hr (by rfl) bl.any TB rfl ⟨rfl, rfl, by decide +kernel, rfl, rfl, fun y hy e => absurd e (by revert y; decide +kernel)⟩ (pv 4) (elt_gt rfl rfl)))
        (pss_cons (ps_set (i := 9) scPlan.nd rfl (.inl rfl) (pe_callB (cr_minS rfl hr.units) (by rfl) bl.min boot_min (pa_cons (pe_lock
          (pe_lc (own := [("name", 13)]) (g := gName 13) (tt := tTest (tOp (rI0 fun i j => .bl (decide (j < i))) (tDGet (tVar 3) (tVar 13)) (tC (.int 0)))) rfl scPlan.nd
            (pi_keys (pv 3)) (blkOk_by (N := scopeN) (sc := defScope sPlan) (by decide +kernel))
            (fun _ _ _ _ _ => pg_name (i := 13) scPlan.nd rfl (Or.inl rfl)) (fun _ _ _ _ _ => pts_one (pt_cmpR op_gt (pe_dget hu (pv 3) (pv 13) (fun _ _ => rfl)) pe_int (nomark _))) (fun _ _ _ _ _ => pv 13))) pa_nil)))
        (pss_cons (ps_set (i := 10) scPlan.nd rfl (.inr rfl) (pe_call GW hr1 (by rfl) cW.m cW.kp cW.b .nil pass0 (pa_cons (pv 4) (pa_cons (pv 3) (pa_cons (pv 9) pa_nil)))))
        (pss_cons (ps_setLc (i := 11) (own := [("k", 14)]) (g := gName 14) (tt := tYes) rfl scPlan.nd rfl rfl (sw_true rfl rfl rfl (by decide +kernel))
            (pi_range2 (by rfl) bl.range (pa_cons pe_int (pa_cons (pe_callB call_len_seq (by rfl) bl.len boot_len (pa_cons (pv 10) pa_nil)) pa_nil)))
            (blkOk_by (N := scopeN) (sc := defScope sPlan) (by decide +kernel))
            (fun _ _ _ _ _ => pg_name (i := 14) scPlan.nd rfl (Or.inl rfl)) (fun _ _ _ _ _ => pts_nil)
            (fun _ _ _ _ _ => pe_tup (pa_cons (pe_ix (ix_listK (K := K) rfl) (pv 10) (pe_op op_sub (pv 14) pe_int) (fun _ _ => rfl)) (pa_cons (pe_ix (ix_listK (K := K) rfl) (pv 10) (pv 14) (fun _ _ => rfl)) pa_nil))))
        (pss_cons (ps_set (i := 7) scPlan.nd rfl (.inl rfl) (pe_callB (cr_min rfl) (by rfl) bl.min boot_min (pa_cons (pe_op op_cat
            (pe_lst (pa_cons (pe_dget hu (pv 3) (pv 9) (fun _ _ => rfl)) (pa_cons (pe_un un_neg (pe_dget hu (pv 3) (pe_ix ix_list (pv 10) (pe_un un_neg pe_int) (fun _ _ => rfl)) (fun _ _ => rfl))) pa_nil)))
            (pe_lc (own := [("step", 12)]) (g := gName 12) (tt := tYes) rfl scPlan.nd (pi_list (pv 11)) (blkOk_by (N := scopeN) (sc := defScope sPlan) (by decide +kernel))
              (fun _ _ _ _ _ => pg_name (i := 12) scPlan.nd rfl (Or.inl rfl)) (fun _ _ _ _ _ => pts_nil) (fun _ _ _ _ _ => pe_dget hu (pv 4) (pv 12) (fun _ _ => rfl)))) pa_nil)))
        (pss_cons (ps_for PassesOwn.never rfl (pi_list (pv 11)) (pg_name (i := 12) scPlan.nd rfl (.inl rfl))
            (pss_one (ps_dput hu (pv 4) (pv 12) (pe_op op_sub (pe_dget hu (pv 4) (pv 12) (fun _ _ => rfl)) (pv 7)) rfl)))
        (pss_cons (ps_dput hu (pv 3) (pv 9) (pe_op op_sub (pe_dget hu (pv 3) (pv 9) (fun _ _ => rfl)) (pv 7)) rfl)
        (pss_cons (ps_dput hu (pv 3) (pe_ix ix_list (pv 10) (pe_un un_neg pe_int) (fun _ _ => rfl)) (pe_op op_add (pe_dget hu (pv 3) (pe_ix ix_list (pv 10) (pe_un un_neg pe_int) (fun _ _ => rfl)) (fun _ _ => rfl)) (pv 7)) rfl)
        (pss_one (ps_expr (pe_bm PySem.F.plainAttrs_list PySem.F.slot_list_append PySem.F.type_list_append mt_append (pv 8) (pa_cons (pe_tup (pa_cons (pv 9) (pa_cons (pe_ix ix_list (pv 10) (pe_un un_neg pe_int) (fun _ _ => rfl)) (pa_cons (pv 7) pa_nil)))) pa_nil))))))))))))
      (pss_one (ps_ret (pv 8))))))), ?_⟩
    refine ⟨_, rfl, _, rfl, _, rfl, t, fv, sv, N, E, F, S, rfl, hT, hf, hs, ar.n12, ar.G.nd, ld, fun H1 mm s1 nm hm => ?_⟩
    refine fun d nd => ?_
    have s1d := same_new (o := .dT []) nd
    have sd := s1.trans s1d
    have nd0 : H d = none := s1.free nd
    have hmd : mm ≠ d := ne_new hm nd
    refine ⟨_, rfl, _, rfl, _, rfl, t, fv, sv, N, E, σ, F, S, rfl, hT.stay (same_tstay sd), ar, hf.same sd, hs.same sd, ld, fun H2 p xs A s2 np hp hA pm => ⟨p, rfl, ⟨xs, SqL.of hp⟩, ?_⟩⟩
    obtain ⟨lo0, knd⟩ := ar.G.left0 pm
    have A12 : A.length ≤ 12 := by
      rw [pm.length_eq]
      exact Nat.le_trans (List.length_filterMap_le _ _) ar.e12
    have sH2 := sd.trans s2
    have hmm2 : H2 mm = some (.dK (dI (names N) (mo F S))) := s2 _ _ (s1d _ _ hm)
    have hd2 : H2 d = some (.dT []) := s2 _ _ upd_same
    refine for_list (K := K) (a := p) (xs := xs) (planFill T t fv sv N F S H mm d p xs A) ⟨none, none, none, rfl, sH2, hmm2, hd2, hp, hA⟩
      (fun i σ' H' _ p' => by obtain ⟨_, _, _, _, _, _, _, h, _⟩ := p'; exact SqL.of h) (fun i x σ' H' hi p' => ?_) fun σ' H' p' => ?_
    · obtain ⟨x5, x6, x7, rfl, s3, hm3, hd3, hp3, hA3⟩ := p'
      obtain ⟨⟨x, y, l⟩, hA', b, rfl, hb⟩ := paired_at hA3 hi
      have i12 : i < A.length := (List.getElem?_eq_some_iff.mp hA').1
      have tk : (A.take (i + 1)).map keyed = (A.take i).map keyed ++ [((x, y), l)] := by rw [List.take_add_one, hA', List.map_append]; rfl
      have new : (x, y) ∉ ((A.take i).map keyed).map (·.1) := fun h => by
        have nd1 := knd
        rw [← List.take_append_drop (i + 1) A, List.map_append, tk, List.map_append, List.map_append] at nd1
        have := (List.nodup_append.mp nd1).1
        exact (List.nodup_append.mp this).2.2 _ h (x, y) List.mem_cons_self rfl
      refine ⟨b, _, rfl, SqT.of hb, rfl, _, _, rfl, _, _, rfl, _, _, rfl, rfl, ?_⟩
      refine ⟨_, rfl, _, rfl, _, rfl, _, rfl, le2, fun tp ntp => ⟨d, _, rfl, DPut.t (k := kT (x, y)) ((upd_ne (ne_new hd3 ntp)).trans hd3) upd_same (small (by rw [dT2_length]; unfold nI; rw [List.length_map, List.length_map, List.length_take]; omega)), ?_⟩⟩
      have hpd : p ≠ d := fun e => by rw [e, hd3] at hp3; cases hp3
      refine ⟨_, _, _, rfl, same_own (s3.trans (same_new ntp)) nd0, ?_, ?_, ?_, ?_⟩
      · rw [upd_ne hmd, upd_ne (ne_new hm3 ntp)]; exact hm3
      · rw [upd_same, dT2_new (by rw [nI_keys]; exact new), tk]
        unfold nI; rw [List.map_append]; rfl
      · rw [upd_ne hpd, upd_ne (ne_new hp3 ntp)]; exact hp3
      · exact trips_stay hA3 ((tstay_new ntp).trans (tstay_upd ((upd_ne (ne_new hd3 ntp)).trans hd3) fun ys z => nomatch z))
    · obtain ⟨x5, x6, x7, rfl, s3, hm3, hd3, hp3, hA3⟩ := p'
      rw [Paired.length hA3, List.take_length] at hd3
      refine ⟨Nat.zero_le _, fun mv nmv => ?_⟩
      have nmv0 : H mv = none := s3.free nmv
      have St0 : PlSt T N E σ F S H mm d mv (mo F S) (A.map keyed) [] (upd H' mv (.lst [])) := by
        refine ⟨SameB.of (same_own s3 nmv0), TabG.upd (TabG.same tab s3) (tabG_free tab nmv0), (same_new nmv) _ _ hm3, (same_new nmv) _ _ hd3, ⟨[], upd_same, .nil⟩, knd, by rw [List.length_map]; exact A12, ld.zero ar.G.nd, lo0, ⟨fun x hx => (nomatch hx), fun v hv => ?_, ?_⟩⟩
        · rw [sm_nil]; omega
        · rw [sm_nil]; exact Int.zero_add _
      have fl0 : sm E (fun e => ab (fl (names N) σ (mo F S) e)) ≤ 2397600 := ld.flow_le ar
      have fn0 : 0 ≤ sm E (fun e => ab (fl (names N) σ (mo F S) e)) := sm_nonneg fun e _ => by unfold ab; omega
      refine ⟨planInv T t fv sv N E σ F S H mm d mv, ⟨(sm E fun e => ab (fl (names N) σ (mo F S) e)).toNat, mo F S, A.map keyed, [], x5, x6, x7, none, none, none, none, none, none, rfl, St0, by omega, by simp only [List.length_nil]; omega⟩, ?_⟩
      rintro k σ1 H4 ⟨m, L, M, x5, x6, x7, x9, x10, x11, x12, x13, x14, rfl, St4, hk, hM⟩
      refine ⟨_, rfl, d, _, L.map (·.2), rfl, St4.hd, nI_snd L, St4.tab, fun H5 tb5 => ⟨_, rfl, ?_⟩⟩
      have St5 := St4.next (SameB.tab tb5) tb5.1
      refine ite2 (fun htrue => ?_) (fun hfalse => ?_)
      · refine ⟨_, fun σ' H' hN => hN, ?_⟩
        -- start
        obtain ⟨p0, hp0, hpp0⟩ : ∃ p ∈ L, 0 < p.2 := by
          obtain ⟨n, hn, hd⟩ := List.any_eq_true.mp htrue
          obtain ⟨p, hp, rfl⟩ := List.mem_map.mp hn
          exact ⟨p, hp, of_decide_eq_true hd⟩
        obtain ⟨v0, hv0, hmv0⟩ : ∃ v ∈ names N, 0 < m v := Good.some_more St5.z St5.lo hp0 hpp0
        have hm5 := St5.hm
        have n12 := ar.n12
        have eN : (names N).length = N.length := List.length_map ..
        refine ⟨mm, _, hm5, trivial, fun od => ?_⟩
        refine ⟨_, rfl, mm, od, rfl, .inl ⟨_, upd_same, fun D nD => ?_⟩⟩
        obtain ⟨nD1, neD⟩ := lock_free hm5 nD
        have hn : (dI (names N) m).length = (names N).length := dV_length ..
        refine lc_it walk_keys (fun i H' => Same (upd H5 mm (.frz od (.dK (dI (names N) m)))) H' ∧ H' D = some (.lst ((pos N m i).map V.str))) ⟨same_new nD, by rw [upd_same]; rfl⟩
          (fun i H' _ p' => p'.1 _ _ upd_same) (fun i x H' H2 hi p' hy => ?_) fun H' p' => ?_
        · obtain ⟨s6, hl⟩ := p'
          rw [hn] at hi
          obtain ⟨rfl, kk, vv, hk1, rfl⟩ := hy
          obtain ⟨z, hz⟩ : ∃ e, (names N)[i]? = some e := ⟨_, List.getElem?_eq_getElem hi⟩
          have ek : kk = Sum.inr z := by
            have := congrArg (fun o => o.map (·.1)) hk1
            rw [← List.getElem?_map, dV_keys, List.getElem?_map, hz] at this
            exact (Option.some.inj this).symm
          subst ek
          have hzN := List.mem_of_getElem? hz
          have tk : pos N m (i + 1) = pos N m i ++ (if 0 < m z then [z] else []) := by
            unfold pos
            rw [List.take_add_one, hz, List.filter_append]
            congr 1
            by_cases c : 0 < m z <;> simp [c]
          have pl : (pos N m i).length ≤ i := by
            unfold pos
            refine Nat.le_trans (List.length_filter_le _ _) ?_
            rw [List.length_take]; omega
          refine ⟨rfl, _, rfl, _, rfl, mm, .int (m z), rfl, .inl ⟨_, Sum.inr z, .inr ⟨od, s6 _ _ upd_same⟩, rfl, (dV_get (g := fun k => V.int (m k)) hzN).symm⟩, _, _, rfl, rfl, _, rfl, ?_⟩
          refine ite2 (fun h => ?_) (fun h => ?_)
          · have h' : 0 < m z := of_decide_eq_true h
            refine ⟨_, rfl, _, hl, small (by rw [List.length_map]; omega), same_own s6 nD, ?_⟩
            rw [upd_same, tk, if_pos h', List.map_append]; rfl
          · have h' : ¬ 0 < m z := fun z => h (decide_eq_true z)
            refine ⟨s6, ?_⟩
            rw [tk, if_neg h', List.append_nil]; exact hl
        · obtain ⟨s6, hl⟩ := p'
          rw [hn] at hl
          refine ⟨s6 _ _ upd_same, ?_⟩
          have s6' := same_unlock hm5 s6
          have epos : ∀ z, z ∈ pos N m (names N).length ↔ z ∈ names N ∧ 0 < m z := fun z => by
            unfold pos; rw [List.take_length, List.mem_filter, decide_eq_true_iff]
          refine ⟨D, pos N m (names N).length, rfl, SqL.of (by rw [upd_ne neD]; exact hl), (fun e => by have := (epos v0).mpr ⟨hv0, hmv0⟩; rw [e] at this; cases this), fun s0 hs0 => ?_⟩
          obtain ⟨hs0N, hs0m⟩ := (epos s0).mp hs0
          have St6 := St5.next (SameB.of s6') (TabG.same St5.tab s6')
          generalize upd H' mm (.dK (dI (names N) m)) = H6 at *
          -- way
          refine ⟨_, rfl, _, rfl, _, rfl, d, mm, s0, N, E, σ, m, L, rfl, ar, St6.hd, St6.hm, St6.nd, St6.l12, St6.z, St6.lo, hs0N, hs0m, fun H7 pw ws tt s7 npw hws W htN htm hwl => ?_⟩
          have St7 := St6.next (SameB.of s7) (TabG.same St6.tab s7)
          -- steps
          have w1 : ws ≠ [] := fun e => by have := W.last; rw [e] at this; cases this
          have w1' : 1 ≤ ws.length := by cases ws with | nil => exact absurd rfl w1 | cons _ _ => simp
          refine ⟨_, rfl, pw, _, rfl, .inl (SqL.of hws), ?_⟩
          refine ⟨1, _, rfl, ⟨by decide, by decide, ?_, ?_⟩, fun D2 nD2 => ?_⟩
          · rw [List.length_map]; omega
          · rw [List.length_map]; omega
          have ej : (((List.map V.str ws).length : Int) - 1).toNat = ws.length - 1 := by rw [List.length_map]; omega
          rw [ej]
          have sl := steps_length ws
          refine lc_range (lo := 1) (n := ws.length - 1) (fun i H' => Same H7 H' ∧ ∃ xs, H' D2 = some (.lst xs) ∧ Paired (StAt H') xs ((steps ws).take i)) ⟨same_new nD2, [], upd_same, .nil⟩ (fun i H' hi p' => ?_) fun H8 p' => ?_
          · obtain ⟨s8, xs, hl, hp⟩ := p'
            obtain ⟨x, hx⟩ : ∃ x, ws[i]? = some x := ⟨_, List.getElem?_eq_getElem (by omega)⟩
            obtain ⟨y, hy⟩ : ∃ y, ws[i + 1]? = some y := ⟨_, List.getElem?_eq_getElem (by omega)⟩
            have sp : H' pw = some (.lst (ws.map V.str)) := s8 _ _ hws
            have xl := Paired.length hp
            rw [List.length_take] at xl
            refine ⟨rfl, _, rfl, _, rfl, _, _, rfl, rfl, pw, _, _, .str x, rfl, rfl, SqL.of sp, at_of (j := i) (by omega) (by rw [List.getElem?_map, hx]; rfl), _, rfl, _, rfl, pw, _, _, .str y, rfl, rfl, SqL.of sp, at_of (j := i + 1) (by omega) (by rw [List.getElem?_map, hy]; rfl), le2, fun tp ntp => ?_⟩
            refine ⟨xs, (same_new ntp) _ _ hl, small (by omega), same_own (s8.trans (same_new ntp)) nD2, _, upd_same, ?_⟩
            rw [List.take_add_one, steps_get hx hy]
            refine Paired.snoc (sts_stay hp ((tstay_new ntp).trans (tstay_upd ((same_new ntp) _ _ hl) fun ys z => nomatch z))) ⟨tp, rfl, ?_⟩
            rw [upd_ne (ne_new hl ntp).symm, upd_same]
          · obtain ⟨s8, xs, hl, hp⟩ := p'
            rw [← sl, List.take_length] at hp
            have St8 := St7.next (SameB.of s8) (TabG.same St7.tab s8)
            have hws8 := s8 _ _ hws
            have hlast : (ws.map V.str).getLast? = some (.str tt) := getLast_map W.last
            have xl := Paired.length hp
            have gs : ∀ {H' : Hp} {v : Str} {m : Str → Int}, v ∈ names N → H' mm = some (.dK (dI (names N) m)) → DGet H' mm (.str v) (some (.int (m v))) := fun {H' v m} hv h => by
              have := DGet.k (k := Sum.inr v) h; rw [dV_get hv] at this; exact this
            have inL : ∀ q ∈ steps ws, ∃ n, (q, n) ∈ L ∧ 0 < n := fun q hq => W.steps q hq
            -- number
            refine ⟨_, rfl, _, rfl, mm, .int (m s0), rfl, gs hs0N St8.hm, _, rfl, _, rfl, _, rfl, pw, _, _, .str tt, rfl, rfl, SqL.of hws8, atI_end hlast, mm, .int (m tt), rfl, gs htN St8.hm, _, rfl, le2, fun l2 nl2 => ?_⟩
            have sl2 : Same H8 (upd H8 l2 (.lst [.int (m s0), .int (-m tt)])) := same_new nl2
            refine ⟨_, rfl, D2, rfl, ⟨xs, SqL.of (sl2 _ _ hl)⟩, fun D3 nD3 => ?_⟩
            refine lc_list (K := K) (a := D2) (xs := xs) (fun i H' => Same (upd H8 l2 (.lst [.int (m s0), .int (-m tt)])) H' ∧ H' D3 = some (.lst ((((steps ws).take i).map (val L)).map V.int))) ⟨same_new nD3, by rw [upd_same]; rfl⟩
              (fun i H' _ p' => SqL.of (p'.1 _ _ (sl2 _ _ hl))) (fun i x H' hi p' => ?_) fun H9 p' => ?_
            · obtain ⟨s9, hl9⟩ := p'
              obtain ⟨q1, hq1, b, rfl, hb⟩ := paired_at hp hi
              obtain ⟨n, hn, hn0⟩ := inL q1 (List.mem_of_getElem? hq1)
              refine ⟨rfl, _, rfl, _, rfl, d, .int n, rfl, (by have := DGet.t (k := kT q1) ((sl2.trans s9) _ _ St8.hd) ((sl2.trans s9) _ _ hb); rw [dT2_get (by rw [nI_keys]; exact St8.nd) (nI_mem hn)] at this; exact this), ?_⟩
              refine ⟨_, hl9, small (by rw [List.length_map, List.length_map, List.length_take]; omega), same_own s9 nD3, ?_⟩
              rw [upd_same, List.take_add_one, hq1, ← val_mem St8.nd hn]; simp
            · obtain ⟨s9, hl9⟩ := p'
              rw [xl, List.take_length] at hl9
              refine ⟨l2, D3, _, _, rfl, rfl, s9 _ _ upd_same, hl9, Nat.le_of_lt (small (by simp only [List.length_map, List.length_cons, List.length_nil]; omega)), fun l4 nl4 => ?_⟩
              refine ⟨l4, m s0 :: -m tt :: (steps ws).map (val L), rfl, SqL.of (by rw [upd_same]; rfl), by simp, fun num hnum hmin => ?_⟩
              have s10 := s9.trans (same_new (o := .lst ([V.int (m s0), V.int (-m tt)] ++ ((steps ws).map (val L)).map V.int)) nl4)
              have s10' := sl2.trans s10
              generalize upd H9 l4 (.lst ([V.int (m s0), V.int (-m tt)] ++ ((steps ws).map (val L)).map V.int)) = H10 at *
              have St10 := St8.next (SameB.of s10') (TabG.same St8.tab s10')
              have hl10 := s10' _ _ hl
              have hws10 := s10' _ _ hws8
              have hp10 := sts_stay hp (same_tstay s10')
              have num0 : 0 < num := by
                rcases List.mem_cons.mp hnum with e | e
                · omega
                · rcases List.mem_cons.mp e with e | e
                  · omega
                  · obtain ⟨q1, hq1, rfl⟩ := List.mem_map.mp e
                    obtain ⟨n, hn, hn0⟩ := inL q1 hq1
                    rw [val_mem St8.nd hn]; exact hn0
              have hle : ∀ q ∈ steps ws, ∀ n, (q, n) ∈ L → num ≤ n := fun q1 hq1 n hn => by
                have := hmin (val L q1) (List.mem_cons_of_mem _ (List.mem_cons_of_mem _ (List.mem_map.mpr ⟨q1, hq1, rfl⟩)))
                rw [val_mem St8.nd hn] at this; exact this
              have hst : s0 ≠ tt := fun e => by rw [e] at hs0m; omega
              obtain ⟨mz, mlo, mpay, mless⟩ := Good.move (ns := names N) ar.G St10.z St10.lo W hs0N htN hst num0 hle
              -- the flow is less
              refine ⟨_, rfl, D2, rfl, ⟨xs, SqL.of hl10⟩, ?_⟩
              refine for_list (K := K) (a := D2) (xs := xs) (planTake t fv sv mm d mv x5 x6 s0 pw D2 x13 x14 H10 L num (steps ws)) ⟨⟨_, rfl⟩, fun b o _ h => h, by rw [List.take_zero, less_nil]; exact St10.hd⟩
                (fun i σ' H' _ p' => SqL.of (p'.2.1 _ _ (fun e => by rw [e, St10.hd] at hl10; cases hl10) hl10)) (fun i x σ' H' hi p' => ?_) fun σ' H11 p' => ?_
              · obtain ⟨⟨x12, rfl⟩, keep, hd11⟩ := p'
                obtain ⟨q1, hq1, b, rfl, hb⟩ := paired_at hp10 hi
                obtain ⟨n, hn, hn0⟩ := inL q1 (List.mem_of_getElem? hq1)
                have hb' := keep b _ (fun e => by rw [e, St10.hd] at hb; cases hb) hb
                have nd' : ((less L num ((steps ws).take i)).map (·.1)).Nodup := by rw [less_keys]; exact St10.nd
                have hv := less_val (k := num) (st := (steps ws).take i) St10.nd hn
                refine ⟨_, rfl, _, rfl, d, .int (n - num * cnt q1 ((steps ws).take i)), rfl, (by have := DGet.t (k := kT q1) hd11 hb'; rw [dT2_get (by rw [nI_keys]; exact nd') (nI_mem hv)] at this; exact this), _, rfl, _, _, rfl, rfl, _, rfl, _, rfl, d, _, rfl,
                  DPut.t (k := kT q1) hd11 hb' (small (by rw [dT2_length]; unfold nI less; rw [List.length_map, List.length_map]; have := St10.l12; omega)), ?_⟩
                refine ⟨⟨_, rfl⟩, fun b o hb h => by rw [upd_ne hb]; exact keep b o hb h, ?_⟩
                rw [upd_same, dT2_put (by rw [nI_keys, less_keys]; exact List.mem_map.mpr ⟨_, hn, rfl⟩) (by rw [nI_keys]; exact nd'), less_step St10.nd hn, List.take_add_one, hq1]
                rfl
              · obtain ⟨⟨x12, rfl⟩, keep, hd11⟩ := p'
                rw [xl, List.take_length] at hd11
                -- more
                have hmd2 : mm ≠ d := hmd
                obtain ⟨xs10, hv10, hpv10⟩ := St10.hv
                have hmv : mv ≠ d := fun e => by rw [e, St10.hd] at hv10; cases hv10
                have hmv2 : mv ≠ mm := fun e => by rw [e, St10.hm] at hv10; cases hv10
                have hpd : pw ≠ d := fun e => by rw [e, St10.hd] at hws10; cases hws10
                have hpm : pw ≠ mm := fun e => by rw [e, St10.hm] at hws10; cases hws10
                have hTd : T ≠ d := (tabG_ne St10.tab St10.hd fun _ e => nomatch e).symm
                have hm11 := keep _ _ hmd2 St10.hm
                have hw11 := keep _ _ hpd hws10
                have hv11 := keep _ _ hmv hv10
                have tab11 : TabG H11 T := let ⟨ps, h, kk⟩ := St10.tab; ⟨ps, keep _ _ hTd h, kk⟩
                have same11 : SameB T H H11 := fun b o n h => keep b o (ne_of_none h nd0) (St10.same b o n h)
                have kz : (dI (names N) m).length < sizeLine := by rw [dV_length]; exact small (by omega)
                have kz2 : ∀ m' : Str → Int, (dI (names N) m').length < sizeLine := fun m' => by rw [dV_length]; exact small (by omega)
                refine ⟨_, rfl, _, rfl, mm, .int (m s0), rfl, gs hs0N hm11, _, rfl, _, _, rfl, rfl, _, rfl, _, rfl, mm, _, rfl, DPut.k (k := Sum.inr s0) hm11 kz, ?_⟩
                rw [dI_put hs0N]
                have hm12 : upd H11 mm (.dK (dI (names N) (put m s0 (m s0 - num)))) mm = some (.dK (dI (names N) (put m s0 (m s0 - num)))) := upd_same
                have hw12 : upd H11 mm (.dK (dI (names N) (put m s0 (m s0 - num)))) pw = _ := (upd_ne hpm).trans hw11
                have hv12 : upd H11 mm (.dK (dI (names N) (put m s0 (m s0 - num)))) mv = _ := (upd_ne hmv2).trans hv11
                have hd12 : upd H11 mm (.dK (dI (names N) (put m s0 (m s0 - num)))) d = _ := (upd_ne hmd2.symm).trans hd11
                have tab12 := TabG.upd (o := .dK (dI (names N) (put m s0 (m s0 - num)))) tab11 (tabG_ne St10.tab St10.hm fun _ e => nomatch e)
                have same12 := sameB_own (o := .dK (dI (names N) (put m s0 (m s0 - num)))) same11 nm
                have stay12 : TStay H10 (upd H11 mm (.dK (dI (names N) (put m s0 (m s0 - num))))) := fun b ys e => by
                  rw [upd_ne fun z => by rw [z, St10.hm] at e; cases e]
                  exact keep b _ (fun z => by rw [z, St10.hd] at e; cases e) e
                generalize upd H11 mm (.dK (dI (names N) (put m s0 (m s0 - num)))) = H12 at *
                have pt : put m s0 (m s0 - num) tt = m tt := put_ne m _ hst.symm
                refine ⟨_, rfl, _, rfl, _, rfl, pw, _, _, .str tt, rfl, rfl, SqL.of hw12, atI_end hlast, mm, .int (m tt), rfl, (by have := gs htN hm12; rw [pt] at this; exact this), _, rfl, _, _, rfl, rfl, _, rfl, _, rfl, _, rfl, pw, _, _, .str tt, rfl, rfl, SqL.of hw12, atI_end hlast, mm, _, rfl,
                  DPut.k (k := Sum.inr tt) hm12 (kz2 _), ?_⟩
                rw [dI_put htN]
                have em : dI (names N) (put (put m s0 (m s0 - num)) tt (m tt + num)) = dI (names N) fun x => m x - gone s0 tt num x := dV_congr fun x _ => by show V.int _ = V.int _; rw [put_gone m num hst x]
                rw [em]
                have hm13 : upd H12 mm (.dK (dI (names N) fun x => m x - gone s0 tt num x)) mm = some (.dK (dI (names N) fun x => m x - gone s0 tt num x)) := upd_same
                have hw13 : upd H12 mm (.dK (dI (names N) fun x => m x - gone s0 tt num x)) pw = _ := (upd_ne hpm).trans hw12
                have hv13 : upd H12 mm (.dK (dI (names N) fun x => m x - gone s0 tt num x)) mv = _ := (upd_ne hmv2).trans hv12
                have hd13 : upd H12 mm (.dK (dI (names N) fun x => m x - gone s0 tt num x)) d = _ := (upd_ne hmd2.symm).trans hd12
                have tab13 := TabG.upd (o := .dK (dI (names N) fun x => m x - gone s0 tt num x)) tab12 (tabG_ne St10.tab St10.hm fun _ e => nomatch e)
                have same13 := sameB_own (o := .dK (dI (names N) fun x => m x - gone s0 tt num x)) same12 nm
                have stay13 : TStay H10 (upd H12 mm (.dK (dI (names N) fun x => m x - gone s0 tt num x))) := fun b ys e => by
                  rw [upd_ne fun z => by rw [z, St10.hm] at e; cases e]
                  exact stay12 b _ e
                generalize upd H12 mm (.dK (dI (names N) fun x => m x - gone s0 tt num x)) = H13 at *
                have xl10 := Paired.length hpv10
                refine ⟨_, rfl, .inl ⟨rfl, _, SqL.of hv13⟩, _, rfl, _, rfl, _, rfl, pw, _, _, .str tt, rfl, rfl, SqL.of hw13, atI_end hlast, _, rfl, le3, fun tp ntp => ⟨mv, _, _, rfl, rfl, (upd_ne (ne_new hv13 ntp)).trans hv13, Nat.lt_of_le_of_lt (m := 2397600) (by omega) (by decide), ?_⟩⟩
                have ntp0 : H tp = none := same13.free ntp (tabG_free tab13 ntp)
                have fn1 : 0 ≤ sm E (fun e => ab (fl (names N) σ (fun x => m x - gone s0 tt num x) e)) := sm_nonneg fun e _ => by unfold ab; omega
                have mless' : sm E (fun e => ab (fl (names N) σ (fun x => m x - gone s0 tt num x) e)) < sm E (fun e => ab (fl (names N) σ m e)) := mless
                obtain ⟨κ, hκ⟩ : ∃ κ : Nat, (κ : Int) = sm E (fun e => ab (fl (names N) σ (fun x => m x - gone s0 tt num x) e)) := ⟨_, Int.toNat_of_nonneg fn1⟩
                rw [← hκ, ← hk] at mless'
                refine ⟨κ, by omega, _, less L num (steps ws), M ++ [(s0, tt, num)], _, _, _, _, _, _, _, _, _, rfl, ?_, hκ, by rw [List.length_append, List.length_singleton]; omega⟩
                refine ⟨sameB_own (sameB_own same13 ntp0) nmv0, TabG.upd (TabG.upd tab13 (tabG_free tab13 ntp)) (tabG_ne St10.tab hv10 fun _ e => nomatch e), ?_, ?_, ⟨_, upd_same, app_trip hv13 ntp (trips_stay hpv10 stay13)⟩, ?_, ?_, mz, mlo, St10.mv.more hs0N htN num0 mpay⟩
                · rw [upd_ne hmv2.symm, upd_ne (ne_new hm13 ntp)]; exact hm13
                · rw [upd_ne hmv.symm, upd_ne (ne_new hd13 ntp)]; exact hd13
                · rw [less_keys]; exact St10.nd
                · unfold less; rw [List.length_map]; exact St10.l12
      · have hz : ∀ p ∈ L, ¬ 0 < p.2 := fun p hp h => hfalse (List.any_eq_true.mpr ⟨p.2, List.mem_map.mpr ⟨p, hp, rfl⟩, decide_eq_true h⟩)
        obtain ⟨hm0, hf0⟩ := ar.G.all_done St5.z St5.lo hz
        obtain ⟨xs5, hx5, hp5⟩ := St5.hv
        refine ⟨_, rfl, q H5 mv M xs5 St5.same St5.tab nmv0 hx5 hp5 ⟨St5.mv.mem, fun v hv => ?_, ?_⟩ (by omega)⟩
        · rw [← St5.mv.mov v hv, hm0 v hv]
        · rw [← St5.mv.pay]
          congr 1
          refine sm_congr fun e he => ?_
          have z1 : fl (names N) σ m e = 0 := hf0 e he
          have z2 : fl (names N) σ (fun _ => 0) e = 0 := sm_zero fun x _ => Int.mul_zero _
          rw [z1, z2]
end
end K59

set_option Elab.async false
set_option linter.all false
set_option maxRecDepth 100000
set_option maxHeartbeats 4000000
namespace K59
open PySem PySem.Spec PyProof.Rows L2 GxR
/-- the arcs' keys -/
def keysOf (A : List (Str × Str × Int)) : List (Str × Str) := A.map fun a => (a.1, a.2.1)
def trues (A : List (Str × Str × Int)) : List ((Str × Str) × V) := A.map fun a => ((a.1, a.2.1), V.bl true)
theorem trues_keys (A : List (Str × Str × Int)) : (trues A).map (·.1) = keysOf A := by unfold trues keysOf; rw [List.map_map]; rfl
theorem keyed_keys (A : List (Str × Str × Int)) : (A.map keyed).map (·.1) = keysOf A := by unfold keysOf; rw [List.map_map]; rfl
theorem key_arc {ns : List Str} {E : List Ed'} {σ : Ed' → Str → Int} {f : Ed' → Int} {A : List (Str × Str × Int)} (h : A.Perm (E.filterMap (arcOf f))) {x y : Str} : (x, y) ∈ keysOf A ↔ PArc (A.map keyed) x y := by
  constructor
  · intro hk
    obtain ⟨a, ha, e⟩ := List.mem_map.mp hk
    have e1 : a.1 = x := congrArg Prod.fst e
    have e2 : a.2.1 = y := congrArg Prod.snd e
    obtain ⟨ed, _, hs⟩ := List.mem_filterMap.mp (h.mem_iff.mp ha)
    refine ⟨a.2.2, List.mem_map.mpr ⟨a, ha, by unfold keyed; rw [e1, e2]⟩, ?_⟩
    rcases arcOf_some hs with ⟨h1, rfl⟩ | ⟨h1, rfl⟩
    · exact h1
    · show 0 < - f ed
      omega
  · rintro ⟨n, hn, _⟩
    rw [← keyed_keys]
    exact List.mem_map.mpr ⟨_, hn, rfl⟩
/-- the price over an edge -/
theorem price_step {ns : List Str} {E : List Ed'} {σ : Ed' → Str → Int} {f : Ed' → Int} {A : List (Str × Str × Int)} (G : Good ns E σ) (h : A.Perm (E.filterMap (arcOf f))) {x y : Str} {l : Int} (adj : Adj E x y l) :
    priceOf E σ f y = priceOf E σ f x + if (x, y) ∈ keysOf A then - l else if (y, x) ∈ keysOf A then l else 0 := by
  obtain ⟨lo, _⟩ := G.left0 h
  have k : ∀ a b, (a, b) ∈ keysOf A ↔ PArc (A.map keyed) a b := fun a b => key_arc (ns := ns) (σ := σ) h
  rcases adj with he | he
  · have pe := G.pot_edge f he
    have nb := G.no_back lo he
    have pe : priceOf E σ f x - priceOf E σ f y = l * sg (f (x, y, l)) := pe
    unfold sg at pe
    by_cases h1 : 0 < f (x, y, l)
    · rw [if_pos h1] at pe
      rw [if_pos ((k x y).mpr ⟨_, lo.fwd _ he h1, h1⟩)]; omega
    · rw [if_neg h1] at pe
      rw [if_neg fun z => nb.1 (by omega) ((k x y).mp z)]
      by_cases h2 : f (x, y, l) < 0
      · rw [if_pos h2] at pe
        rw [if_pos ((k y x).mpr ⟨_, lo.bwd _ he h2, by omega⟩)]; omega
      · rw [if_neg h2] at pe
        rw [if_neg fun z => nb.2 (by omega) ((k y x).mp z)]; omega
  · have pe := G.pot_edge f he
    have nb := G.no_back lo he
    have pe : priceOf E σ f y - priceOf E σ f x = l * sg (f (y, x, l)) := pe
    unfold sg at pe
    by_cases h1 : 0 < f (y, x, l)
    · rw [if_pos h1] at pe
      rw [if_neg fun z => nb.2 (by omega) ((k x y).mp z), if_pos ((k y x).mpr ⟨_, lo.fwd _ he h1, h1⟩)]; omega
    · rw [if_neg h1] at pe
      by_cases h2 : f (y, x, l) < 0
      · rw [if_pos h2] at pe
        rw [if_pos ((k x y).mpr ⟨_, lo.bwd _ he h2, by omega⟩)]; omega
      · rw [if_neg h2] at pe
        rw [if_neg fun z => nb.2 (by omega) ((k x y).mp z), if_neg fun z => nb.1 (by omega) ((k y x).mp z)]; omega
/-- the state of the search -/
structure PrSt (N : List (Str × Int)) (A : List (Str × Str × Int)) (start : Str) (pr : Str → Int) (H0 : Hp) (mvd d wq : Addr) (ks wl : List Str) (H' : Hp) : Prop where
  same : Same H0 H'
  hm : H' mvd = some (.dT (dT2 (trues A)))
  hd : H' d = some (.dK (dI ks pr))
  hw : H' wq = some (.lst (wl.map V.str))
  nd : ks.Nodup
  sub : ∀ k ∈ ks, k ∈ names N
  fst : start ∈ ks
  wsub : ∀ k ∈ wl, k ∈ ks
  wlen : wl.length ≤ ks.length
theorem PrSt.mono {N : List (Str × Int)} {A : List (Str × Str × Int)} {start : Str} {pr : Str → Int} {H0 : Hp} {mvd d wq : Addr} {ks wl : List Str} {H' H2 : Hp} (S : PrSt N A start pr H0 mvd d wq ks wl H') (s : Same H' H2) : PrSt N A start pr H0 mvd d wq ks wl H2 :=
  ⟨S.same.trans s, s _ _ S.hm, s _ _ S.hd, s _ _ S.hw, S.nd, S.sub, S.fst, S.wsub, S.wlen⟩
theorem PrSt.k12 {N : List (Str × Int)} {A : List (Str × Str × Int)} {start : Str} {pr : Str → Int} {H0 : Hp} {mvd d wq : Addr} {ks wl : List Str} {H' : Hp} (S : PrSt N A start pr H0 mvd d wq ks wl H') (h : N.length ≤ 12) : ks.length ≤ 12 := by
  have := List.Nodup.length_le_of_subset S.nd S.sub
  have e : (names N).length = N.length := List.length_map ..
  omega
theorem sameB_upd {d : Addr} {H0 H : Hp} {o : HO} (s : SameB d H0 H) : SameB d H0 (upd H d o) := fun b u n e => by rw [upd_ne n]; exact s b u n e
theorem SameB.own {d : Addr} {H0 H : Hp} {p : Addr} {o : HO} (s : SameB d H0 H) (np : H p = none) (hd : ∃ u, H d = some u) : SameB d H0 (upd H p o) := fun b u n e => by
  rw [upd_ne (ne_new (s b u n e) np)]; exact s b u n e
theorem PrSt.put {N : List (Str × Int)} {A : List (Str × Str × Int)} {start y : Str} {pr : Str → Int} {H0 : Hp} {mvd d wq : Addr} {ks wl : List Str} {H' H2 : Hp} (S : PrSt N A start pr H0 mvd d wq ks wl H') (hy : y ∉ ks) (hyN : y ∈ names N) (nd : H0 d = none)
    (s : SameB d H' H2) (h : H2 d = some (.dK (dI (ks ++ [y]) pr))) : PrSt N A start pr H0 mvd d wq (ks ++ [y]) wl H2 := by
  refine ⟨fun b o e => s b o (ne_of_none e nd) (S.same b o e), s _ _ (fun e => by have := S.hm; rw [e, S.hd] at this; cases this) S.hm, h, s _ _ (fun e => by have := S.hw; rw [e, S.hd] at this; cases this) S.hw, ?_, fun k hk => ?_, List.mem_append_left _ S.fst, fun k hk => List.mem_append_left _ (S.wsub k hk), by rw [List.length_append]; exact Nat.le_trans S.wlen (Nat.le_add_right _ _)⟩
  · exact List.nodup_append.mpr ⟨S.nd, by simp, fun a ha b hb e => hy (by rw [List.mem_singleton.mp hb] at e; exact e ▸ ha)⟩
  · rcases List.mem_append.mp hk with h | h
    · exact S.sub k h
    · rw [List.mem_singleton.mp h]; exact hyN
def priFill (t f s : V) (H0 : Hp) (mvd p : Addr) (xs : List V) (A : List (Str × Str × Int)) (i : Nat) (σ' : L2.St) (H' : Hp) : Prop :=
  ∃ x4 x5 x6, σ' = [some t, some f, some s, some (.ref mvd), x4, x5, x6, none, none, none, none, none] ∧ Same H0 H' ∧ H' mvd = some (.dT (dT2 (trues (A.take i)))) ∧ H' p = some (.lst xs) ∧ Paired (TripAt H') xs A
def priInv (t f s : V) (start : Str) (N : List (Str × Int)) (E : List Ed') (A : List (Str × Str × Int)) (pr : Str → Int) (H0 : Hp) (mvd d wq : Addr) (m : Nat) (σ' : L2.St) (H' : Hp) : Prop :=
  ∃ ks wl x4 x5 x6 x10 x11, m = wl.length + (12 - ks.length) ∧ σ' = [some t, some f, some s, some (.ref mvd), x4, x5, x6, some (.str start), some (.ref d), some (.ref wq), x10, x11] ∧ PrSt N A start pr H0 mvd d wq ks wl H' ∧
    ∀ k ∈ ks, k ∉ wl → ∀ y l, Adj E k y l → y ∈ ks
def priIn (t f s : V) (start nm : Str) (N : List (Str × Int)) (E : List Ed') (A : List (Str × Str × Int)) (pr : Str → Int) (H0 : Hp) (mvd d wq p : Addr) (xs : List V) (B : List (Str × Int)) (μ : Nat) (i : Nat) (σ' : L2.St) (H' : Hp) : Prop :=
  ∃ ks wl x4 x5 x6 x11, σ' = [some t, some f, some s, some (.ref mvd), x4, x5, x6, some (.str start), some (.ref d), some (.ref wq), some (.str nm), x11] ∧ PrSt N A start pr H0 mvd d wq ks wl H' ∧ H' p = some (.lst xs) ∧ Paired (PairAt H') xs B ∧ p ≠ wq ∧
    (∀ k ∈ ks, k ∉ wl → k ≠ nm → ∀ y l, Adj E k y l → y ∈ ks) ∧ (∀ j y l, j < i → B[j]? = some (y, l) → y ∈ ks) ∧ nm ∈ ks ∧ wl.length + (12 - ks.length) = μ
section
variable {P : Program} {w : World} {K : PySem.W.Frag} {mg : Str → Option Value} {base : Heap}
def spPrices : Sp := fun vs H Q _ => ∃ (t f s : V) (N : List (Str × Int)) (E : List Ed') (σ : Ed' → Str → Int) (F S : List (Str × Int)), vs = [t, f, s] ∧ TreeAt H t N E ∧ Arb N E σ ∧ LoadAt H f F ∧ LoadAt H s S ∧ LdOk N F S ∧ N ≠ [] ∧
  ∀ H' p (zs : List Str) (c : Int), Same H H' → LoadAt H' (.ref p) (zs.map fun z => (z, priceOf E σ (fo N σ F S) z - c)) → zs.Nodup → (∀ x, x ∈ zs ↔ x ∈ names N) → Q (.ref p) H'
theorem ok_prices {f fL fN : Addr} {fd fdL fdN : FuncData} (F : Fun K "prices" "prices" sPrices f fd) (bl : Blt mg)
    (GL : FnOk P w K mg base CX0 4 fL fdL ["some_tree", "first", "second"] spFlow) (cL : Cal K mg "flow" fL fdL ["some_tree", "first", "second"])
    (GN : FnOk P w K mg base CX0 1 fN fdN ["some_tree", "name"] spNeigh) (cN : Cal K mg "neighbors" fN fdN ["some_tree", "name"]) : FnOk P w K mg base CX0 5 f fd ["some_tree", "first", "second"] spPrices := by
  refine F.ok scPrices (fun vs H Q E h => ?_) (fun cdv A outer s H vs Q E hr h => ?_)
  · obtain ⟨t, f, s, N, E, σ, F, S, rfl, _⟩ := h
    rfl
  · obtain ⟨t, fv, sv, N, E, σ, F, S, rfl, hT, ar, hf, hs, ld, hN, q⟩ := h
    have hu := hu_of hr
    have hr1 : Room 1 _ := hr.mono (by decide)
    refine ⟨_, pss_cons (ps_set (i := 3) scPrices.nd rfl (.inl rfl) pe_dnewT)
      (pss_cons (ps_for PassesOwn.never rfl (pi_list (pe_call GL hr (by rfl) cL.m cL.kp cL.b .nil pass0 (pa_cons (pv 0) (pa_cons (pv 1) (pa_cons (pv 2) pa_nil)))))
        (pg_tup rfl (pgs_cons (pg_name (i := 4) scPrices.nd rfl (.inl rfl)) (pgs_cons (pg_name (i := 5) scPrices.nd rfl (.inl rfl)) (pgs_cons (pg_name (i := 6) scPrices.nd rfl (.inl rfl)) pgs_nil))))
        (pss_one (ps_dput hu (pv 3) (pe_tup (pa_cons (pv 4) (pa_cons (pv 5) pa_nil))) pe_bl rfl)))
      (pss_cons (ps_set (i := 7) scPrices.nd rfl (.inl rfl) (pe_ix ix_tup (pe_ix ix_tup (pe_ix ix_tup (pv 0) pe_int (fun _ _ => rfl)) pe_int (fun _ _ => rfl)) pe_int (fun _ _ => rfl)))
      (pss_cons (ps_set (i := 8) scPrices.nd rfl (.inr rfl) (pe_disp (pps_cons (pv 7) pe_int pps_nil) (by rfl) (by rfl) (fun z => by cases z) (by decide)))
      (pss_cons (ps_set (i := 9) scPrices.nd rfl (.inl rfl) (pe_lst (pa_cons (pv 7) pa_nil)))
      (pss_cons (ps_while PassesOwn.never (pt_cmpR op_gt (pe_callB call_len_seq (by rfl) bl.len boot_len (pa_cons (pv 9) pa_nil)) pe_int (nomark _))
        (pss_cons (ps_set (i := 10) scPrices.nd rfl (.inl rfl) (pe_bm0 PySem.F.plainAttrs_list PySem.F.slot_list_pop PySem.F.type_list_pop mt_pop (pv 9)))
        (pss_one (ps_for PassesOwn.never rfl (pi_list (pe_call GN hr1 (by rfl) cN.m cN.kp cN.b .nil pass0 (pa_cons (pv 0) (pa_cons (pv 10) pa_nil))))
          (pg_tup rfl (pgs_cons (pg_name (i := 5) scPrices.nd rfl (.inl rfl)) (pgs_cons (pg_name (i := 11) scPrices.nd rfl (.inl rfl)) pgs_nil)))
          (pss_one (ps_if (pt_cmp (pc_dnotin hu (pv 5) (pv 8)))
            (pss_cons (ps_dput hu (pv 8) (pv 5) (pe_dget hu (pv 8) (pv 10) (fun _ _ => rfl)) rfl)
            (pss_cons (ps_if (pt_cmp (pc_din hu (pe_tup (pa_cons (pv 10) (pa_cons (pv 5) pa_nil))) (pv 3)))
              (pss_one (ps_dput hu (pv 8) (pv 5) (pe_op op_sub (pe_dget hu (pv 8) (pv 10) (fun _ _ => rfl)) (pv 11)) rfl))
              (pss_one (ps_if (pt_cmp (pc_din hu (pe_tup (pa_cons (pv 5) (pa_cons (pv 10) pa_nil))) (pv 3)))
                (pss_one (ps_dput hu (pv 8) (pv 5) (pe_op op_add (pe_dget hu (pv 8) (pv 10) (fun _ _ => rfl)) (pv 11)) rfl)) pss_nil)))
            (pss_one (ps_expr (pe_bm PySem.F.plainAttrs_list PySem.F.slot_list_append PySem.F.type_list_append mt_append (pv 9) (pa_cons (pv 5) pa_nil)))))) pss_nil))))))
      (pss_one (ps_ret (pe_lc (own := [("name", 10)]) (g := gName 10) (tt := tYes) rfl scPrices.nd (pi_list (pe_callB (call_sortedD rfl) (by rfl) bl.sorted boot_sorted (pa_cons (pv 8) pa_nil)))
          (blkOk_by (N := ["some_tree", "first", "second", "moved", "one", "other", "_", "start", "found", "waiting", "name", "length"]) (sc := defScope sPrices) (by decide +kernel))
          (fun _ _ _ _ _ => pg_name (i := 10) scPrices.nd rfl (Or.inl rfl)) (fun _ _ _ _ _ => pts_nil)
          (fun _ _ _ _ _ => pe_tup (pa_cons (pv 10) (pa_cons (pe_dget hu (pv 8) (pv 10) (fun _ _ => rfl)) pa_nil))))))))))), ?_⟩
    refine fun mvd nmvd => ?_
    have s1 := same_new (o := .dT []) nmvd
    refine ⟨_, rfl, _, rfl, _, rfl, t, fv, sv, N, E, σ, F, S, rfl, hT.stay (same_tstay s1), ar, hf.same s1, hs.same s1, ld, fun H2 p xs A s2 np hp hA pm => ⟨p, rfl, ⟨xs, SqL.of hp⟩, ?_⟩⟩
    obtain ⟨lo0, knd⟩ := ar.G.left0 pm
    rw [keyed_keys] at knd
    have A12 : A.length ≤ 12 := by
      rw [pm.length_eq]
      exact Nat.le_trans (List.length_filterMap_le _ _) ar.e12
    refine for_list (K := K) (a := p) (xs := xs) (priFill t fv sv H mvd p xs A) ⟨none, none, none, rfl, s1.trans s2, s2 _ _ upd_same, hp, hA⟩
      (fun i σ' H' _ p' => by obtain ⟨_, _, _, _, _, _, h, _⟩ := p'; exact SqL.of h) (fun i x σ' H' hi p' => ?_) fun σ' H3 p' => ?_
    · obtain ⟨x4, x5, x6, rfl, s3, hm3, hp3, hA3⟩ := p'
      obtain ⟨⟨x, y, l⟩, hA', b, rfl, hb⟩ := paired_at hA3 hi
      have i12 : i < A.length := (List.getElem?_eq_some_iff.mp hA').1
      have tk : trues (A.take (i + 1)) = trues (A.take i) ++ [((x, y), .bl true)] := by unfold trues; rw [List.take_add_one, hA', List.map_append]; rfl
      have new : (x, y) ∉ (trues (A.take i)).map (·.1) := fun h => by
        have nd1 := knd
        rw [← trues_keys, ← List.take_append_drop (i + 1) A] at nd1
        have e1 : trues (A.take (i + 1) ++ A.drop (i + 1)) = trues (A.take (i + 1)) ++ trues (A.drop (i + 1)) := List.map_append
        rw [e1, tk, List.map_append, List.map_append] at nd1
        have := (List.nodup_append.mp nd1).1
        exact (List.nodup_append.mp this).2.2 _ h (x, y) List.mem_cons_self rfl
      refine ⟨b, _, rfl, SqT.of hb, rfl, _, _, rfl, _, _, rfl, _, _, rfl, rfl, ?_⟩
      refine ⟨_, rfl, _, rfl, _, rfl, le2, fun tp ntp => ⟨mvd, _, rfl, DPut.t (k := kT (x, y)) ((upd_ne (ne_new hm3 ntp)).trans hm3) upd_same (small (by rw [dT2_length]; unfold trues; rw [List.length_map, List.length_take]; omega)), ?_⟩⟩
      have hpd : p ≠ mvd := fun e => by rw [e, hm3] at hp3; cases hp3
      refine ⟨_, _, _, rfl, same_own (s3.trans (same_new ntp)) nmvd, ?_, ?_, ?_⟩
      · rw [upd_same, dT2_new new, tk]
      · rw [upd_ne hpd, upd_ne (ne_new hp3 ntp)]; exact hp3
      · exact trips_stay hA3 ((tstay_new ntp).trans (tstay_upd ((upd_ne (ne_new hm3 ntp)).trans hm3) fun ys z => nomatch z))
    · obtain ⟨x4, x5, x6, rfl, s3, hm3, hp3, hA3⟩ := p'
      rw [Paired.length hA3, List.take_length] at hm3
      -- start
      obtain ⟨a, n, e, ns, es, rfl, t1, t2, t3, t4, t5⟩ := id hT
      obtain ⟨⟨start, wt⟩, N', rfl⟩ : ∃ q N', N = q :: N' := by cases N with | nil => exact absurd rfl hN | cons q0 N' => exact ⟨q0, N', rfl⟩
      obtain ⟨v0, hv0, b0, rfl, hb0⟩ : ∃ v, ns[0]? = some v ∧ PairAt H v (start, wt) := by
        cases t4 with
        | cons r _ => exact ⟨_, rfl, r⟩
      generalize eN : (start, wt) :: N' = N at *
      have hsN : start ∈ names N := by rw [← eN]; exact List.mem_cons_self
      refine ⟨_, rfl, a, _, 0, .ref n, rfl, rfl, SqT.of (s3 _ _ t1), at_of (j := 0) rfl rfl, n, _, 0, .ref b0, rfl, rfl, SqT.of (s3 _ _ t2), at_of (j := 0) rfl hv0, b0, _, 0, .str start, rfl, rfl, SqT.of (s3 _ _ hb0), at_of (j := 0) rfl rfl, ?_⟩
      -- found = {start: 0}
      refine fun d nd => ⟨_, rfl, ⟨upd_same, [(Sum.inr start, .int 0)], rfl, (by show 1 ≤ 15; decide), ?_⟩⟩
      have nd0 : H d = none := s3.free nd
      obtain ⟨pr, hpr⟩ : ∃ pr : Str → Int, pr = fun z => priceOf E σ (fo N σ F S) z - priceOf E σ (fo N σ F S) start := ⟨_, rfl⟩
      have pr0 : pr start = 0 := by rw [hpr]; exact Int.sub_self _
      have e1 : upd (upd H3 d (.dK [])) d (.dK (mergeK [] [(Sum.inr start, V.int 0)])) d = some (.dK (dI [start] pr)) := by rw [upd_same]; show some (HO.dK [(Sum.inr start, V.int 0)]) = some (HO.dK [(Sum.inr start, V.int (pr start))]); rw [pr0]
      have s4 : Same H (upd (upd H3 d (.dK [])) d (.dK (mergeK [] [(Sum.inr start, V.int 0)]))) := same_own (same_own s3 nd0) nd0
      have hm4 : upd (upd H3 d (.dK [])) d (.dK (mergeK [] [(Sum.inr start, V.int 0)])) mvd = some (.dT (dT2 (trues A))) := by rw [upd_ne (ne_new hm3 nd), upd_ne (ne_new hm3 nd)]; exact hm3
      generalize upd (upd H3 d (.dK [])) d (.dK (mergeK [] [(Sum.inr start, V.int 0)])) = H4 at *
      -- waiting = [start]
      refine ⟨_, rfl, (by show 1 ≤ sizeLine; decide), fun wq nw => ?_⟩
      have nw0 : H wq = none := s4.free nw
      have ndw : d ≠ wq := ne_new e1 nw
      have nmw : mvd ≠ wq := ne_new hm4 nw
      have nmd : mvd ≠ d := fun z => by rw [z, e1] at hm4; cases hm4
      have S0 : PrSt N A start pr H mvd d wq [start] [start] (upd H4 wq (.lst ([start].map V.str))) :=
        ⟨same_own s4 nw0, by rw [upd_ne nmw]; exact hm4, by rw [upd_ne ndw]; exact e1, upd_same, by simp, fun k hk => by rw [List.mem_singleton.mp hk]; exact hsN, List.mem_cons_self, fun k hk => hk, Nat.le_refl _⟩
      refine ⟨priInv (.ref a) fv sv start N E A pr H mvd d wq, ⟨_, [start], [start], _, _, _, none, none, rfl, rfl, S0, fun k hk hn => absurd hk hn⟩, ?_⟩
      rintro m σ' H' ⟨ks, wl, x4, x5, x6, x10, x11, rfl, rfl, S1, cl⟩
      have k12 := S1.k12 ar.n12
      refine ⟨_, rfl, wq, _, rfl, .inl (SqL.of S1.hw), _, _, rfl, rfl, _, rfl, ?_⟩
      refine ite2 (fun hlen => ?_) (fun hlen => ?_)
      · have hlen : (0 : Int) < ((wl.map V.str).length : Nat) := of_decide_eq_true hlen
        rw [List.length_map] at hlen
        obtain ⟨wl', nm, rfl⟩ : ∃ wl' nm, wl = wl' ++ [nm] := by
          cases wl with
          | nil => simp at hlen
          | cons w0 wl => exact ⟨_, _, (List.dropLast_concat_getLast (l := w0 :: wl) (by simp)).symm⟩
        have hnm : nm ∈ ks := S1.wsub nm (by simp)
        refine ⟨_, fun σ' H' hN => hN, ?_⟩
        refine ⟨_, rfl, .inl ⟨rfl, _, SqL.of S1.hw⟩, wq, _, .str nm, rfl, rfl, S1.hw, (by simp), ?_⟩
        have S2 : PrSt N A start pr H mvd d wq ks wl' (upd H' wq (.lst (List.map V.str (wl' ++ [nm])).dropLast)) :=
          ⟨same_own S1.same nw0, by rw [upd_ne nmw]; exact S1.hm, by rw [upd_ne ndw]; exact S1.hd, by rw [upd_same]; simp, S1.nd, S1.sub, S1.fst, fun k hk => S1.wsub k (List.mem_append_left _ hk), by have := S1.wlen; simp at this; omega⟩
        generalize upd H' wq (.lst (List.map V.str (wl' ++ [nm])).dropLast) = H5 at *
        -- neighbors
        refine ⟨_, rfl, _, rfl, .ref a, nm, N, E, rfl, hT.stay (same_tstay S2.same), ar.e12, fun H6 p2 xs2 B s6 np2 hp2 pr2 hB hBl => ⟨p2, rfl, ⟨xs2, SqL.of hp2⟩, ?_⟩⟩
        have S3 := S2.mono s6
        have npw : p2 ≠ wq := fun e => by rw [e, S2.hw] at np2; cases np2
        refine for_list (K := K) (a := p2) (xs := xs2) (priIn (.ref a) fv sv start nm N E A pr H mvd d wq p2 xs2 B (wl'.length + (12 - ks.length))) ⟨ks, wl', _, _, _, _, rfl, S3, hp2, pr2, npw, fun k hk hn hne => cl k hk (by simp [hn, hne]), fun j y l hj => by omega, hnm, rfl⟩
          (fun i σ H' _ p' => ?_) (fun i x σ' H7 hi p' => ?_) fun σ' H7 p' => ?_
        · obtain ⟨_, _, _, _, _, _, _, _, h, _⟩ := p'
          exact SqL.of h
        · obtain ⟨ks3, wl3, x4, x5, x6, x11, rfl, S4, hp3, pr3, npw3, cl3, dn3, hnm3, hμ⟩ := p'
          obtain ⟨⟨y, l⟩, hyB, bb, rfl, hbb⟩ := paired_at pr3 hi
          have hadj : Adj E nm y l := (hB y l).mp (List.mem_of_getElem? hyB)
          have hyN : y ∈ names N := (ar.G.adj_mem hadj).2
          have k12' := S4.k12 ar.n12
          have hpd : p2 ≠ d := fun e => by rw [e, S4.hd] at hp3; cases hp3
          have dsz : (dI ks3 pr).length < sizeLine := by rw [dV_length]; exact small (by omega)
          have ps := price_step (ns := names N) ar.G pm hadj
          refine ⟨bb, _, rfl, SqT.of hbb, rfl, _, _, rfl, _, _, rfl, rfl, _, rfl, _, rfl, d, _, rfl, DGet.k (k := Sum.inr y) S4.hd, _, rfl, ?_⟩
          rw [dV_isSome]
          refine ite2 (fun hny => ?_) (fun hyk => ?_)
          · have hny : y ∉ ks3 := by simpa using hny
            have kz : (dI (ks3 ++ [y]) pr).length < sizeLine := by rw [dV_length, List.length_append, List.length_singleton]; exact small (by omega)
            have hyn : nm ≠ y := fun z => hny (z ▸ hnm3)
            have g0 : DGet H7 d (.str nm) (some (.int (pr nm))) := by have := DGet.k (k := Sum.inr nm) S4.hd; rw [dV_get hnm3] at this; exact this
            refine ⟨_, rfl, _, rfl, d, _, rfl, g0, _, rfl, _, rfl, d, _, rfl, DPut.k (k := Sum.inr y) S4.hd dsz, ?_⟩
            rw [dI_new hny]
            have ek1 : ∀ v, v = pr y → dI (ks3 ++ [y]) (put pr y v) = dI (ks3 ++ [y]) pr := fun v hv => dV_congr fun x _ => by
              show V.int (put pr y v x) = V.int (pr x)
              unfold put
              by_cases e : x = y
              · rw [if_pos e, hv, e]
              · rw [if_neg e]
            have ek : ∀ u v, v = pr y → dI (ks3 ++ [y]) (put (put pr y u) y v) = dI (ks3 ++ [y]) pr := fun u v hv => by
              rw [← ek1 v hv]
              exact dV_congr fun x _ => by
                show V.int (put (put pr y u) y v x) = V.int (put pr y v x)
                unfold put
                by_cases e : x = y
                · rw [if_pos e, if_pos e]
                · rw [if_neg e, if_neg e, if_neg e]
            have pry : pr y = pr nm + if (nm, y) ∈ keysOf A then - l else if (y, nm) ∈ keysOf A then l else 0 := by
              rw [hpr]
              show priceOf E σ (fo N σ F S) y - _ = priceOf E σ (fo N σ F S) nm - _ + _
              rw [ps]; omega
            have tnd : ((trues A).map (·.1)).Nodup := by rw [trues_keys]; exact knd
            have s8 : SameB d H7 (upd H7 d (.dK (dI (ks3 ++ [y]) (put pr y (pr nm))))) := sameB_upd (SameB.refl d H7)
            have hd8 : upd H7 d (.dK (dI (ks3 ++ [y]) (put pr y (pr nm)))) d = some (.dK (dI (ks3 ++ [y]) (put pr y (pr nm)))) := upd_same
            generalize upd H7 d (.dK (dI (ks3 ++ [y]) (put pr y (pr nm)))) = H8 at *
            have hmd : mvd ≠ d := fun e => by have := S4.hm; rw [e, S4.hd] at this; cases this
            have hm8 := s8 _ _ hmd S4.hm
            have hnmk : nm ∈ ks3 ++ [y] := List.mem_append_left _ hnm3
            have hyk : y ∈ ks3 ++ [y] := List.mem_append_right _ List.mem_cons_self
            have g8 : ∀ {H' : Hp}, H' d = some (.dK (dI (ks3 ++ [y]) (put pr y (pr nm)))) → DGet H' d (.str nm) (some (.int (pr nm))) := fun {H'} h => by
              have := DGet.k (k := Sum.inr nm) h; rw [dV_get hnmk] at this; rw [put_ne pr _ hyn] at this; exact this
            have kz8 : (dI (ks3 ++ [y]) (put pr y (pr nm))).length < sizeLine := by rw [dV_length] at kz ⊢; exact kz
            refine ⟨_, rfl, _, rfl, le2, fun tp ntp => ⟨_, rfl, mvd, _, rfl, DGet.t (k := kT (nm, y)) ((same_new ntp) _ _ hm8) upd_same, _, rfl, ?_⟩⟩
            rw [dT2_isSome tnd, trues_keys]
            have s9 := s8.own (o := .tup [.str nm, .str y]) ntp ⟨_, hd8⟩
            have hd9 := (same_new (o := .tup [.str nm, .str y]) ntp) _ _ hd8
            have hm9 := (same_new (o := .tup [.str nm, .str y]) ntp) _ _ hm8
            generalize upd H8 tp (.tup [.str nm, .str y]) = H9 at *
            refine ite2 (fun h1 => ?p1) (fun h1 => ?p2)
            case' p1 =>
              have h1 : (nm, y) ∈ keysOf A := of_decide_eq_true h1
              rw [if_pos h1] at pry
              refine ⟨_, rfl, _, rfl, d, _, rfl, g8 hd9, _, rfl, _, _, rfl, rfl, _, rfl, _, rfl, d, _, rfl, DPut.k (k := Sum.inr y) hd9 kz8, ?_⟩
              rw [dI_put hyk, ek _ _ (by omega)]
              obtain ⟨sF, hdF⟩ : SameB d H7 (upd H9 d (.dK (dI (ks3 ++ [y]) pr))) ∧ upd H9 d (.dK (dI (ks3 ++ [y]) pr)) d = some (.dK (dI (ks3 ++ [y]) pr)) := ⟨sameB_upd s9, upd_same⟩
              generalize upd H9 d (.dK (dI (ks3 ++ [y]) pr)) = HF at *
            case' p2 =>
              have h1 : ¬ (nm, y) ∈ keysOf A := fun z => h1 (decide_eq_true z)
              rw [if_neg h1] at pry
              refine ⟨_, rfl, _, rfl, le2, fun tp2 ntp2 => ⟨_, rfl, mvd, _, rfl, DGet.t (k := kT (y, nm)) ((same_new ntp2) _ _ hm9) upd_same, _, rfl, ?_⟩⟩
              rw [dT2_isSome tnd, trues_keys]
              have s10 := s9.own (o := .tup [.str y, .str nm]) ntp2 ⟨_, hd9⟩
              have hd10 := (same_new (o := .tup [.str y, .str nm]) ntp2) _ _ hd9
              generalize upd H9 tp2 (.tup [.str y, .str nm]) = H10 at *
              refine ite2 (fun h2 => ?p3) (fun h2 => ?p4)
            case' p3 =>
              have h2 : (y, nm) ∈ keysOf A := of_decide_eq_true h2
              rw [if_pos h2] at pry
              refine ⟨_, rfl, _, rfl, d, _, rfl, g8 hd10, _, rfl, _, _, rfl, rfl, _, rfl, _, rfl, d, _, rfl, DPut.k (k := Sum.inr y) hd10 kz8, ?_⟩
              rw [dI_put hyk, ek _ _ (by omega)]
              obtain ⟨sF, hdF⟩ : SameB d H7 (upd H10 d (.dK (dI (ks3 ++ [y]) pr))) ∧ upd H10 d (.dK (dI (ks3 ++ [y]) pr)) d = some (.dK (dI (ks3 ++ [y]) pr)) := ⟨sameB_upd s10, upd_same⟩
              generalize upd H10 d (.dK (dI (ks3 ++ [y]) pr)) = HF at *
            case' p4 =>
              have h2 : ¬ (y, nm) ∈ keysOf A := fun z => h2 (decide_eq_true z)
              rw [if_neg h2] at pry
              rw [ek1 _ (by omega)] at hd10
              obtain ⟨sF, hdF⟩ : SameB d H7 H10 ∧ H10 d = some (.dK (dI (ks3 ++ [y]) pr)) := ⟨s10, hd10⟩
              generalize H10 = HF at *
            all_goals
              have S9 := S4.put hny hyN nd0 sF hdF
              have hp9 := sF _ _ hpd hp3
              have pr9 : Paired (PairAt HF) xs2 B := pr3.mono fun v q => by
                rintro ⟨a', e', h'⟩
                exact ⟨a', e', sF _ _ (fun e => by rw [e, S4.hd] at h'; cases h') h'⟩
              have wsz : (wl3.map V.str).length < sizeLine := by rw [List.length_map]; have := S4.wlen; exact small (by omega)
              have k12'' := S9.k12 ar.n12
              refine ⟨_, rfl, .inl ⟨rfl, _, SqL.of S9.hw⟩, _, rfl, wq, _, _, rfl, rfl, S9.hw, wsz, ?_⟩
              refine ⟨ks3 ++ [y], wl3 ++ [y], _, _, _, _, rfl, ⟨same_own S9.same nw0, by rw [upd_ne nmw]; exact S9.hm, by rw [upd_ne ndw]; exact S9.hd, by rw [upd_same, List.map_append]; rfl, S9.nd, S9.sub, S9.fst, fun k hk => ?_, ?_⟩, by rw [upd_ne npw3]; exact hp9, ?_, npw3, fun k hk hn hne y' l' ha' => ?_, fun j y' l' hj hjB => ?_, hnmk, ?_⟩
              · rcases List.mem_append.mp hk with h | h
                · exact S9.wsub k h
                · exact List.mem_append_right _ h
              · have := S4.wlen; simp; exact this
              · refine pr9.mono fun v q => ?_
                rintro ⟨a', e', h'⟩
                exact ⟨a', e', by rw [upd_ne fun e => by rw [e, S9.hw] at h'; cases h']; exact h'⟩
              · rcases List.mem_append.mp hk with h | h
                · exact List.mem_append_left _ (cl3 k h (fun z => hn (List.mem_append_left _ z)) hne y' l' ha')
                · exact absurd (List.mem_append_right _ h) hn
              · by_cases e : j = i
                · subst e
                  rw [hyB] at hjB
                  cases hjB
                  exact hyk
                · exact List.mem_append_left _ (dn3 j y' l' (by omega) hjB)
              · rw [List.length_append, List.length_append, List.length_singleton]
                rw [List.length_append, List.length_singleton] at k12''
                omega
          · have hyk : y ∈ ks3 := by simpa using hyk
            refine ⟨_, _, _, _, _, _, rfl, S4, hp3, pr3, npw3, cl3, fun j y' l' hj hjB => ?_, hnm3, hμ⟩
            by_cases e : j = i
            · subst e
              rw [hyB] at hjB
              cases hjB
              exact hyk
            · exact dn3 j y' l' (by omega) hjB
        · obtain ⟨ks3, wl3, x4, x5, x6, x11, rfl, S4, hp3, pr3, npw3, cl3, dn3, hnm3, hμ⟩ := p'
          refine ⟨_, ?_, ks3, wl3, _, _, _, _, _, rfl, rfl, S4, fun k hk hn y l hal => ?_⟩
          · rw [hμ, List.length_append, List.length_singleton]; omega
          · by_cases e : k = nm
            · rw [e] at hal
              obtain ⟨j, hj⟩ := List.getElem?_of_mem ((hB y l).mpr hal)
              exact dn3 j y l (by rw [Paired.length pr3]; exact (List.getElem?_eq_some_iff.mp hj).1) hj
            · exact cl3 k hk hn e y l hal
      · have hz : wl = [] := by
          cases wl with
          | nil => rfl
          | cons w0 wl => exact absurd (decide_eq_true (by rw [List.length_map, List.length_cons]; omega)) hlen
        subst hz
        have all : ∀ x ∈ names N, x ∈ ks := ar.G.conn (fun x => x ∈ ks) ⟨start, hsN, S1.fst⟩ fun e he => ⟨fun h => cl _ h (by simp) _ _ (.inl he), fun h => cl _ h (by simp) _ _ (.inr he)⟩
        refine ⟨_, rfl, d, _, ks, rfl, .inl S1.hd, dV_keys _ _, by omega, fun ys p8 pm8 _ np8 => ⟨p8, rfl, ⟨_, SqL.of upd_same⟩, fun D hD => ?_⟩⟩
        have s8 : Same H' (upd H' p8 (.lst (ys.map V.str))) := same_new np8
        have hd8 := s8 _ _ S1.hd
        have h8 : upd H' p8 (.lst (ys.map V.str)) p8 = some (.lst (ys.map V.str)) := upd_same
        generalize upd H' p8 (.lst (ys.map V.str)) = H8 at *
        refine lc_list (K := K) (a := p8) (xs := ys.map V.str) (fun i H' => Same H8 H' ∧ ∃ zs, H' D = some (.lst zs) ∧ Paired (PairAt H') zs ((ys.take i).map fun z => (z, pr z))) ⟨same_new hD, [], upd_same, .nil⟩
          (fun i H' _ p' => SqL.of (p'.1 _ _ h8)) (fun i x H9 hi p' => ?_) fun H9 p' => ?_
        · obtain ⟨s9, zs, hl, hpz⟩ := p'
          obtain ⟨z, hz, rfl⟩ : ∃ z, ys[i]? = some z ∧ V.str z = x := by
            rw [List.getElem?_map] at hi
            cases en : ys[i]? with
            | none => rw [en] at hi; cases hi
            | some z => rw [en] at hi; exact ⟨z, rfl, Option.some.inj hi⟩
          have hzk : z ∈ ks := pm8.mem_iff.mp (List.mem_of_getElem? hz)
          have zl := Paired.length hpz
          rw [List.length_map, List.length_take] at zl
          have il := (List.getElem?_eq_some_iff.mp hz).1
          rw [pm8.length_eq] at il
          refine ⟨rfl, _, rfl, _, rfl, _, rfl, d, .int (pr z), rfl, (by have := DGet.k (k := Sum.inr z) (s9 _ _ hd8); rw [dV_get hzk] at this; exact this), le2, fun tp ntp => ⟨zs, (same_new ntp) _ _ hl, small (by omega), same_own (s9.trans (same_new ntp)) hD, _, upd_same, ?_⟩⟩
          rw [List.take_add_one, hz, List.map_append]
          exact app_pair hl ntp hpz
        · obtain ⟨s9, zs, hl, hpz⟩ := p'
          rw [List.length_map, List.take_length] at hpz
          rw [hpr] at hpz
          exact q H9 D ys _ ((S1.same.trans s8).trans s9) ⟨D, zs, rfl, hl, hpz⟩ (pm8.nodup_iff.mpr S1.nd) fun x => ⟨fun h => S1.sub x (pm8.mem_iff.mp h), fun h => pm8.mem_iff.mpr (all x h)⟩
end
end K59

set_option Elab.async false
set_option linter.all false
set_option maxRecDepth 100000
set_option maxHeartbeats 4000000
namespace K59
open PySem PySem.Spec PyProof.Rows L2 GxR
/-- digits under the sizes -/
structure DigOk (zs ds : List Int) : Prop where
  len : ds.length = zs.length
  bd : ∀ (i : Nat) (d z : Int), ds[i]? = some d → zs[i]? = some z → 0 ≤ d ∧ d < z
theorem DigOk.nil (zs : List Int) : DigOk (zs.take 0) [] := ⟨by simp, fun i d z h => by simp at h⟩
theorem DigOk.snoc {zs ds : List Int} {i : Nat} {z d : Int} (h : DigOk (zs.take i) ds) (hz : zs[i]? = some z) (h0 : 0 ≤ d) (h1 : d < z) : DigOk (zs.take (i + 1)) (ds ++ [d]) := by
  have e : zs.take (i + 1) = zs.take i ++ [z] := by rw [List.take_add_one, hz]; rfl
  have il := (List.getElem?_eq_some_iff.mp hz).1
  have dl : ds.length = i := by rw [h.len, List.length_take]; omega
  refine ⟨by rw [e, List.length_append, List.length_append, h.len]; rfl, fun j d' z' hd hz' => ?_⟩
  have tl : (zs.take i).length = i := by rw [List.length_take]; omega
  rw [e] at hz'
  by_cases c : j < i
  · rw [List.getElem?_append_left (by omega)] at hd hz'
    exact h.bd j d' z' hd hz'
  · rw [List.getElem?_append_right (by omega)] at hd hz'
    rw [dl] at hd
    rw [tl] at hz'
    cases ej : j - i with
    | zero =>
      rw [ej] at hd hz'
      have a : d = d' := Option.some.inj hd
      have b : z = z' := Option.some.inj hz'
      omega
    | succ n => rw [ej] at hd; simp at hd
section
variable {P : Program} {w : World} {K : PySem.W.Frag} {mg : Str → Option Value} {base : Heap}
/-! ### _law_cell -/
def spCell' (K : PySem.W.Frag) : Sp := fun vs H Q _ => ∃ (l : Addr) (ns : List Int) (k : Int), vs = [.ref l, .int k] ∧ SqL K H l (ns.map V.int) ∧ 0 ≤ k ∧ ∀ n : Int, Q (.int n) H
theorem ok_cell' {f : Addr} {fd : FuncData} (F : Fun K "_law_cell" "_law_cell" sCell f fd) (bl : Blt mg) : FnOk P w K mg base CX0 1 f fd ["_law_script", "_law_k"] (spCell' K) := by
  refine F.ok scCell (fun vs H Q E h => ?_) (fun cdv A outer s H vs Q E hr h => ?_)
  · obtain ⟨l, ns, k, rfl, _⟩ := h
    rfl
  · obtain ⟨l, ns, k, rfl, hs, hk, q⟩ := h
    refine ⟨_, pss_cons (ps_if (pt_cmpR op_lt (pv 1) (pe_callB call_len_seq (by rfl) bl.len boot_len (pa_cons (pv 0) pa_nil)) (nomark _)) (pss_one (ps_ret (pe_ix ix_list (pv 0) (pv 1) (fun _ _ => rfl)))) pss_nil)
      (pss_one (ps_ret pe_int)), ?_⟩
    refine ⟨_, rfl, _, rfl, l, _, rfl, .inl hs, _, _, rfl, rfl, _, rfl, ?_⟩
    refine ite2 (fun h => ?_) (fun h => ?_)
    · have h' : k < ((ns.map V.int).length : Nat) := of_decide_eq_true h
      rw [List.length_map] at h'
      obtain ⟨j, rfl⟩ : ∃ j : Nat, k = j := ⟨k.toNat, by omega⟩
      refine ⟨_, rfl, _, rfl, l, _, _, _, rfl, rfl, hs, atI_cell (by omega), q _⟩
    · exact q 0
/-! ### _law_draw -/
def spDraw (K : PySem.W.Frag) : Sp := fun vs H Q _ => ∃ (l sz : Addr) (ns zs : List Int) (k : Int), vs = [.ref l, .int k, .ref sz] ∧ SqL K H l (ns.map V.int) ∧ H sz = some (.lst (zs.map V.int)) ∧ 0 ≤ k ∧ k ≤ 1000 ∧ (∀ z ∈ zs, 1 ≤ z ∧ z ≤ 1000) ∧ zs.length ≤ 100 ∧
  ∀ H' p ds, Same H H' → H p = none → H' p = some (.lst (ds.map V.int)) → DigOk zs ds → Q (.ref p) H'
def drawA (K : PySem.W.Frag) (l sz o : Addr) (k : Int) (zs : List Int) (H0 : Hp) (i : Nat) (σ' : L2.St) (H' : Hp) : Prop :=
  ∃ (c : Int) (x5 : Option V) (ds : List Int), σ' = [some (.ref l), some (.int k), some (.ref sz), some (.int c), some (.ref o), x5, none, none] ∧ Same H0 H' ∧ H' o = some (.lst (ds.map V.int)) ∧ DigOk (zs.take i) ds
def drawB (K : PySem.W.Frag) (l sz o : Addr) (k : Int) (zs : List Int) (H0 : Hp) (i : Nat) (σ' : L2.St) (H' : Hp) : Prop :=
  ∃ (c st : Int) (x7 : Option V) (ds : List Int), σ' = [some (.ref l), some (.int k), some (.ref sz), some (.int c), some (.ref o), none, some (.int st), x7] ∧ 0 ≤ st ∧ st < 2147483647 ∧ Same H0 H' ∧ H' o = some (.lst (ds.map V.int)) ∧ DigOk (zs.take i) ds
theorem ok_draw {f fC : Addr} {fd fdC : FuncData} (F : Fun K "_law_draw" "_law_draw" sDraw f fd) (bl : Blt mg) (GC : FnOk P w K mg base CX0 1 fC fdC ["_law_script", "_law_k"] (spCell' K)) (cC : Cal K mg "_law_cell" fC fdC ["_law_script", "_law_k"]) :
    FnOk P w K mg base CX0 2 f fd ["_law_script", "_law_k", "_law_sizes"] (spDraw K) := by
  refine F.ok scDraw (fun vs H Q E h => ?_) (fun cdv A outer s H vs Q E hr h => ?_)
  · obtain ⟨l, sz, ns, zs, k, rfl, _⟩ := h
    rfl
  · obtain ⟨l, sz, ns, zs, k, rfl, hs, hz, hk0, hk1, hzs, hzl, q⟩ := h
    refine ⟨_, pss_cons (ps_set (i := 3) scDraw.nd rfl (.inl rfl) (pe_call GC hr (by rfl) cC.m cC.kp cC.b .nil pass0 (pa_cons (pv 0) (pa_cons (pv 1) pa_nil))))
      (pss_cons (ps_if (pt_cmpR op_lt (pv 3) pe_int (nomark _)) (pss_one (ps_set (i := 3) scDraw.nd rfl (.inl rfl) (pe_un un_neg (pv 3)))) pss_nil)
      (pss_cons (ps_set (i := 4) scDraw.nd rfl (.inl rfl) (pe_lst pa_nil))
      (pss_cons (ps_if (pt_cmpR op_ge (pv 3) (pe_op op_pow pe_int pe_int) (nomark _))
        (pss_cons (ps_set (i := 3) scDraw.nd rfl (.inl rfl) (pe_op op_sub (pv 3) (pe_op op_pow pe_int pe_int)))
        (pss_cons (ps_for PassesOwn.never rfl (pi_list (pv 2)) (pg_name (i := 5) scDraw.nd rfl (.inl rfl))
          (pss_cons (ps_expr (pe_bm PySem.F.plainAttrs_list PySem.F.slot_list_append PySem.F.type_list_append mt_append (pv 4) (pa_cons (pe_op op_mod (pv 3) (pv 5)) pa_nil)))
          (pss_one (ps_set (i := 3) scDraw.nd rfl (.inl rfl) (pe_op op_fdiv (pv 3) (pv 5))))))
        (pss_one (ps_ret (pv 4))))) pss_nil)
      (pss_cons (ps_set (i := 6) scDraw.nd rfl (.inl rfl) (pe_op op_mod (pe_op op_add (pe_op op_add (pv 3) pe_int) (pe_op op_mul pe_int (pv 1))) pe_int))
      (pss_cons (ps_for PassesOwn.never rfl (pi_range1 (by rfl) bl.range (pa_cons (pe_callB call_len_seq (by rfl) bl.len boot_len (pa_cons (pv 2) pa_nil)) pa_nil)) (pg_name (i := 7) scDraw.nd rfl (.inl rfl))
          (pss_cons (ps_set (i := 6) scDraw.nd rfl (.inl rfl) (pe_op op_mod (pe_op op_add (pe_op op_add (pe_op op_mul (pv 6) pe_int) pe_int) (pv 7)) pe_int))
          (pss_cons (ps_set (i := 6) scDraw.nd rfl (.inl rfl) (pe_op op_mod (pe_op op_add (pe_op op_mul (pv 6) pe_int) pe_int) pe_int))
          (pss_one (ps_expr (pe_bm PySem.F.plainAttrs_list PySem.F.slot_list_append PySem.F.type_list_append mt_append (pv 4) (pa_cons (pe_op op_mod (pe_op op_fdiv (pv 6) pe_int) (pe_ix ix_list (pv 2) (pv 7) (fun _ _ => rfl))) pa_nil)))))))
      (pss_one (ps_ret (pv 4)))))))), ?_⟩
    refine ⟨_, rfl, _, rfl, l, ns, k, rfl, hs, hk0, fun c0 => ?_⟩
    refine ⟨_, rfl, _, _, rfl, rfl, _, rfl, ?_⟩
    refine ite2 (fun h => ?p1) (fun h => ?p2)
    case' p1 => refine ⟨_, rfl, _, rfl, ?_⟩
    all_goals
      refine ⟨Nat.zero_le _, fun o no => ?_⟩
      have hz1 := (same_new (o := .lst []) no) _ _ hz
      have e1 : upd H o (.lst []) o = some (.lst (([] : List Int).map V.int)) := upd_same
      refine ⟨_, rfl, _, _, rfl, rfl, ⟨by decide, by decide, by decide⟩, _, _, rfl, rfl, _, rfl, ?_⟩
      refine ite2 (fun h => ?_) (fun h => ?_)
      · refine ⟨_, rfl, _, _, rfl, rfl, ⟨by decide, by decide, by decide⟩, _, _, rfl, rfl, ?_⟩
        refine ⟨_, rfl, sz, rfl, ⟨_, SqL.of hz1⟩, ?_⟩
        refine for_list (K := K) (a := sz) (xs := zs.map V.int) (drawA K l sz o k zs H) ⟨_, none, [], rfl, same_new no, e1, .nil zs⟩ (fun i σ' H' _ p' => by obtain ⟨_, _, _, _, s3, _⟩ := p'; exact SqL.of (s3 _ _ hz)) (fun i x σ' H' hi p' => ?_) fun σ' H' p' => ?_
        · obtain ⟨c, x5, ds, rfl, s3, hl, dg⟩ := p'
          obtain ⟨z, hzi, rfl⟩ : ∃ z, zs[i]? = some z ∧ V.int z = x := by
            rw [List.getElem?_map] at hi
            cases en : zs[i]? with
            | none => rw [en] at hi; cases hi
            | some z => rw [en] at hi; exact ⟨z, rfl, Option.some.inj hi⟩
          have zb := hzs z (List.mem_of_getElem? hzi)
          have dl := dg.len
          rw [List.length_take] at dl
          have m1 := Int.emod_nonneg c (show z ≠ 0 by omega)
          have m2 := Int.emod_lt_of_pos c (show 0 < z by omega)
          refine ⟨_, rfl, .inl ⟨rfl, _, SqL.of hl⟩, _, rfl, _, rfl, _, _, rfl, rfl, by omega, o, _, _, rfl, rfl, hl, small (by rw [List.length_map]; omega), ?_⟩
          refine ⟨_, rfl, _, rfl, _, _, rfl, rfl, ⟨by omega, by omega⟩, ?_⟩
          exact ⟨_, _, ds ++ [c % z], rfl, same_own s3 no, by rw [upd_same, List.map_append]; rfl, dg.snoc hzi m1 m2⟩
        · obtain ⟨c, x5, ds, rfl, s3, hl, dg⟩ := p'
          rw [List.length_map, List.take_length] at dg
          exact ⟨_, rfl, q H' o ds s3 no hl dg⟩
      · refine ⟨_, rfl, _, _, rfl, rfl, _, rfl, _, _, rfl, rfl, .inr ⟨by omega, by omega⟩, _, _, rfl, rfl, _, _, rfl, rfl, by omega, ?_⟩
        refine ⟨_, rfl, sz, _, rfl, .inl (SqL.of hz1), _, rfl, by omega, by rw [List.length_map]; omega, ?_⟩
        rw [List.length_map, Int.toNat_natCast]
        refine for_range (lo := 0) (n := zs.length) (drawB K l sz o k zs H) ⟨_, _, none, [], rfl, Int.emod_nonneg _ (by omega), Int.emod_lt_of_pos _ (by omega), same_new no, e1, .nil zs⟩ (fun i σ' H' hi p' => ?_) fun σ' H' p' => ?_
        · obtain ⟨c, st, x7, ds, rfl, st0, st1, s3, hl, dg⟩ := p'
          obtain ⟨z, hzi⟩ : ∃ z, zs[i]? = some z := ⟨_, List.getElem?_eq_getElem hi⟩
          have zb := hzs z (List.mem_of_getElem? hzi)
          have dl := dg.len
          rw [List.length_take] at dl
          have m1 : ∀ y : Int, 0 ≤ y % 2147483647 := fun y => Int.emod_nonneg y (by omega)
          have m2 : ∀ y : Int, y % 2147483647 < 2147483647 := fun y => Int.emod_lt_of_pos y (by omega)
          refine ⟨_, rfl, _, _, rfl, rfl, .inr ⟨by omega, by omega⟩, _, _, rfl, rfl, _, rfl, _, _, rfl, rfl, _, _, rfl, rfl, by omega, ?_⟩
          refine ⟨_, rfl, _, _, rfl, rfl, .inr ⟨by omega, by omega⟩, _, _, rfl, rfl, _, _, rfl, rfl, by omega, ?_⟩
          refine ⟨_, rfl, .inl ⟨rfl, _, SqL.of hl⟩, _, rfl, _, _, rfl, rfl, ⟨by omega, by omega⟩, _, rfl, _, rfl, sz, _, _, .int z, rfl, rfl, SqL.of (s3 _ _ hz), at_of (j := i) (by omega) (by rw [List.getElem?_map, hzi]; rfl), _, _, rfl, rfl, by omega, o, _, _, rfl, rfl, hl, small (by rw [List.length_map]; omega), ?_⟩
          refine ⟨_, _, _, _, rfl, m1 _, m2 _, same_own s3 no, by rw [upd_same, ← List.map_singleton (f := V.int), ← List.map_append], dg.snoc hzi (Int.emod_nonneg _ (by omega)) (Int.emod_lt_of_pos _ (by omega))⟩
        · obtain ⟨c, st, x7, ds, rfl, st0, st1, s3, hl, dg⟩ := p'
          rw [List.take_length] at dg
          exact ⟨_, rfl, q H' o ds s3 no hl dg⟩
end
end K59

set_option Elab.async false
set_option linter.all false
set_option maxRecDepth 100000
set_option maxHeartbeats 4000000
namespace K59
open PySem PySem.Spec PyProof.Rows L2 GxR
/-- the names that trees are made of -/
def nms : List Str := ["m", "a", "h1", "c", "z9", "b", "h2", "dd", "k", "e", "y", "f"]
theorem nms_nd : nms.Nodup := by decide +kernel
theorem nms_len : nms.length = 12 := rfl
def tSizes : List Int := [12, 4, 3] ++ (List.replicate 12 [9, 40, 12]).flatten
theorem tSizes_len : tSizes.length = 39 := by decide
theorem tSizes_at : ∀ j < 12, tSizes[5 + 3 * j]? = some 12 := by decide
theorem perm2 {x y : Str} {ys : List Str} (h : ys.Perm [x, y]) : ys = [x, y] ∨ ys = [y, x] := by
  have hl := h.length_eq
  match ys, hl with
  | [a, b], _ =>
    have hx := h.mem_iff.mpr (List.mem_cons_self : x ∈ [x, y])
    rcases List.mem_cons.mp hx with e | e
    · subst e
      have := (List.perm_cons x).mp h
      have hb := List.perm_singleton.mp this
      exact .inl (by rw [hb])
    · have e2 : x = b := List.mem_singleton.mp e
      subst e2
      have h2 : [x, a].Perm [x, y] := (List.Perm.swap a x []).trans h
      have := List.perm_singleton.mp ((List.perm_cons x).mp h2)
      exact .inr (by rw [List.cons.inj this |>.1])
theorem sql_same {K : PySem.W.Frag} {H H' : Hp} {a : Addr} {xs : List V} (h : SqL K H a xs) (s : Same H H') : SqL K H' a xs := by
  rcases h with h | h
  · rcases h with h | ⟨o, h⟩
    · exact .inl (.inl (s _ _ h))
    · exact .inl (.inr ⟨o, s _ _ h⟩)
  · exact .inr h
structure TrSt (H0 : Hp) (dg nm nd ed : Addr) (ds : List Int) (i : Nat) (B : List (Str × Int)) (Es : List Ed') (H' : Hp) : Prop where
  same : Same H0 H'
  hdg : H' dg = some (.lst (ds.map V.int))
  hnm : H' nm = some (.lst (nms.map V.str))
  hnd : ∃ xs, H' nd = some (.lst xs) ∧ Paired (PairAt H') xs B
  hed : ∃ ys, H' ed = some (.lst ys) ∧ Paired (TripAt H') ys Es
  nB : B.map (·.1) = nms.take i
  lE : Es.length ≤ i
  e999 : ∀ e ∈ Es, e.2.2 ≤ 999
  z : i = 0 → Es = []
  good : 0 < i → ∃ σ, Good (nms.take i) Es σ
theorem TrSt.mono {H0 : Hp} {dg nm nd ed : Addr} {ds : List Int} {i : Nat} {B : List (Str × Int)} {Es : List Ed'} {H' H2 : Hp} (S : TrSt H0 dg nm nd ed ds i B Es H') (s : Same H' H2) : TrSt H0 dg nm nd ed ds i B Es H2 :=
  ⟨S.same.trans s, s _ _ S.hdg, s _ _ S.hnm, let ⟨xs, h, p⟩ := S.hnd; ⟨xs, s _ _ h, pairs_stay p (same_tstay s)⟩, let ⟨xs, h, p⟩ := S.hed; ⟨xs, s _ _ h, trips_stay p (same_tstay s)⟩, S.nB, S.lE, S.e999, S.z, S.good⟩
def treeInv (l dg nm nd ed : Addr) (k many : Int) (ds : List Int) (H0 : Hp) (i : Nat) (σ' : L2.St) (H' : Hp) : Prop :=
  ∃ (x8 x9 x10 x11 x12 x13 : Option V) (B : List (Str × Int)) (Es : List Ed'), σ' = [some (.ref l), some (.int k), some (.int 12), some (.ref dg), some (.ref nm), some (.int many), some (.ref nd), some (.ref ed), x8, x9, x10, x11, x12, x13] ∧ TrSt H0 dg nm nd ed ds i B Es H'
section
variable {P : Program} {w : World} {K : PySem.W.Frag} {mg : Str → Option Value} {base : Heap}
def spTree (K : PySem.W.Frag) : Sp := fun vs H Q _ => ∃ (l : Addr) (ns : List Int) (k : Int), vs = [.ref l, .int k, .int 12] ∧ SqL K H l (ns.map V.int) ∧ 0 ≤ k ∧ k ≤ 1000 ∧
  ∀ H' p N E σ, Same H H' → TreeAt H' (.ref p) N E → Arb N E σ → N ≠ [] → N.Pairwise (fun a b => sle a.1 b.1) → Q (.ref p) H'
theorem ok_tree {f fD : Addr} {fd fdD : FuncData} (F : Fun K "_law_tree" "_law_tree" sTree f fd) (bl : Blt mg) (GD : FnOk P w K mg base CX0 2 fD fdD ["_law_script", "_law_k", "_law_sizes"] (spDraw K)) (cD : Cal K mg "_law_draw" fD fdD ["_law_script", "_law_k", "_law_sizes"]) :
    FnOk P w K mg base CX0 3 f fd ["_law_script", "_law_k", "_law_most"] (spTree K) := by
  refine F.ok scTree (fun vs H Q E h => ?_) (fun cdv A outer s H vs Q E hr h => ?_)
  · obtain ⟨l, ns, k, rfl, _⟩ := h
    rfl
  · obtain ⟨l, ns, k, rfl, hs, hk0, hk1, q⟩ := h
    refine ⟨_, pss_cons (ps_set (i := 3) scTree.nd rfl (.inl rfl) (pe_call GD hr (by rfl) cD.m cD.kp cD.b .nil pass0 (pa_cons (pv 0) (pa_cons (pv 1) (pa_cons (pe_op op_cat (pe_lst (pa_cons (pv 2) (pa_cons pe_int (pa_cons pe_int pa_nil)))) (pe_op op_rep (pe_lst (pa_cons pe_int (pa_cons pe_int (pa_cons pe_int pa_nil)))) pe_int)) pa_nil)))))
      (pss_cons (ps_set (i := 4) scTree.nd rfl (.inl rfl) (pe_lst (pa_cons pe_str (pa_cons pe_str (pa_cons pe_str (pa_cons pe_str (pa_cons pe_str (pa_cons pe_str (pa_cons pe_str (pa_cons pe_str (pa_cons pe_str (pa_cons pe_str (pa_cons pe_str (pa_cons pe_str pa_nil))))))))))))))
      (pss_cons (ps_set (i := 5) scTree.nd rfl (.inl rfl) (pe_op op_add pe_int (pe_ix ix_list (pv 3) pe_int (fun _ _ => rfl))))
      (pss_cons (ps_set (i := 6) scTree.nd rfl (.inl rfl) (pe_lst pa_nil))
      (pss_cons (ps_set (i := 7) scTree.nd rfl (.inl rfl) (pe_lst pa_nil))
      (pss_cons (ps_for PassesOwn.never rfl (pi_range1 (by rfl) bl.range (pa_cons (pv 5) pa_nil)) (pg_name (i := 8) scTree.nd rfl (.inl rfl))
        (pss_cons (ps_set (i := 9) scTree.nd rfl (.inl rfl) (pe_ix ix_list (pe_lst (pa_cons (pe_ix ix_list (pv 3) (pe_op op_add pe_int (pe_op op_mul pe_int (pv 8))) (fun _ _ => rfl)) (pa_cons pe_int (pa_cons (pe_op op_mul (pe_ix ix_list (pv 3) (pe_op op_add pe_int (pe_op op_mul pe_int (pv 8))) (fun _ _ => rfl)) pe_int) (pa_cons pe_int pa_nil)))))
          (pe_ix ix_list (pv 3) pe_int (fun _ _ => rfl)) (fun _ _ => rfl)))
        (pss_cons (ps_expr (pe_bm PySem.F.plainAttrs_list PySem.F.slot_list_append PySem.F.type_list_append mt_append (pv 6) (pa_cons (pe_tup (pa_cons (pe_ix ix_list (pv 4) (pv 8) (fun _ _ => rfl)) (pa_cons (pv 9) pa_nil))) pa_nil)))
        (pss_one (ps_if (pt_cmpR op_gt (pv 8) pe_int (nomark _))
          (pss_cons (ps_set (i := 10) scTree.nd rfl (.inl rfl) (pe_op op_mod (pe_ix ix_list (pv 3) (pe_op op_add pe_int (pe_op op_mul pe_int (pv 8))) (fun _ _ => rfl)) (pv 8)))
          (pss_cons (ps_if (pt_cmpR op_eq (pe_ix ix_list (pv 3) pe_int (fun _ _ => rfl)) pe_int (nomark _)) (pss_one (ps_set (i := 10) scTree.nd rfl (.inl rfl) (pe_op op_sub (pv 8) pe_int))) pss_nil)
          (pss_cons (ps_set (i := 11) scTree.nd rfl (.inl rfl) (pe_op op_add pe_int (pe_ix ix_list (pv 3) (pe_op op_add pe_int (pe_op op_mul pe_int (pv 8))) (fun _ _ => rfl))))
          (pss_cons (ps_asg (pe_callB cr_sortedS (by rfl) bl.sorted boot_sorted (pa_cons (pe_lst (pa_cons (pe_ix ix_list (pv 4) (pv 8) (fun _ _ => rfl)) (pa_cons (pe_ix ix_list (pv 4) (pv 10) (fun _ _ => rfl)) pa_nil))) pa_nil))
            (pg_unl rfl (pgs_cons (pg_name (i := 12) scTree.nd rfl (.inl rfl)) (pgs_cons (pg_name (i := 13) scTree.nd rfl (.inl rfl)) pgs_nil))))
          (pss_one (ps_expr (pe_bm PySem.F.plainAttrs_list PySem.F.slot_list_append PySem.F.type_list_append mt_append (pv 7) (pa_cons (pe_tup (pa_cons (pv 12) (pa_cons (pv 13) (pa_cons (pv 11) pa_nil)))) pa_nil)))))))) pss_nil)))))
      (pss_one (ps_ret (pe_tup (pa_cons (pe_tupleOf (by rfl) bl.tuple (pe_callB (cr_sortedP hr.units) (by rfl) bl.sorted boot_sorted (pa_cons (pv 6) pa_nil)))
        (pa_cons (pe_tupleOf (by rfl) bl.tuple (pe_callB (cr_sortedT hr.units) (by rfl) bl.sorted boot_sorted (pa_cons (pv 7) pa_nil))) pa_nil)))))))))), ?_⟩
    refine ⟨_, rfl, _, rfl, _, rfl, le3, fun a1 n1 => ⟨le3, fun a2 n2 => ?_⟩⟩
    refine ⟨a2, 12, _, rfl, rfl, upd_same, by decide, by decide, by decide, fun a3 n3 => ?_⟩
    have s1 : Same H (upd H a1 (.lst [.int 12, .int 4, .int 3])) := same_new n1
    have h1 : upd H a1 (.lst [.int 12, .int 4, .int 3]) a1 = some (.lst [.int 12, .int 4, .int 3]) := upd_same
    have s3 := (same_new (o := .lst [.int 9, .int 40, .int 12]) n2).trans (same_new (o := .lst (List.replicate (Int.toNat 12) [V.int 9, .int 40, .int 12]).flatten) n3)
    refine ⟨a1, a3, _, _, rfl, rfl, s3 _ _ h1, upd_same, by decide, fun a4 n4 => ?_⟩
    have s4 := (s1.trans s3).trans (same_new (o := .lst ([V.int 12, .int 4, .int 3] ++ (List.replicate (Int.toNat 12) [V.int 9, .int 40, .int 12]).flatten)) n4)
    refine ⟨l, a4, ns, tSizes, k, rfl, sql_same hs s4, (upd_same.trans (by rfl)), hk0, hk1, by decide, by decide, fun H1 dg ds s5 ndg hdg dok => ?_⟩
    have s6 := s4.trans s5
    clear s1 h1 s3 s4 s5 n1 n2 n3 n4 ndg
    -- the names
    refine ⟨by decide, fun nm nnm => ?_⟩
    have dl : ds.length = 39 := dok.len.trans tSizes_len
    have getd : ∀ j, j < 39 → ∃ d, ds[j]? = some d := fun j hj => ⟨_, List.getElem?_eq_getElem (by omega)⟩
    obtain ⟨d0, hd0⟩ := getd 0 (by decide)
    obtain ⟨d1, hd1⟩ := getd 1 (by decide)
    obtain ⟨d2, hd2⟩ := getd 2 (by decide)
    have b0 := dok.bd 0 d0 12 hd0 (by decide)
    have b1 := dok.bd 1 d1 4 hd1 (by decide)
    have gm : ∀ {j : Nat} {d : Int}, ds[j]? = some d → (ds.map V.int)[j]? = some (.int d) := fun {j d} h => by rw [List.getElem?_map, h]; rfl
    obtain ⟨m, hm⟩ : ∃ m : Nat, (m : Int) = 1 + d0 := ⟨(1 + d0).toNat, by omega⟩
    refine ⟨_, rfl, dg, _, _, .int d0, rfl, rfl, SqL.of ((same_new nnm) _ _ hdg), at_of (j := 0) rfl (gm hd0), _, _, rfl, rfl, ?_⟩
    refine ⟨Nat.zero_le _, fun nd nnd => ⟨Nat.zero_le _, fun ed ned => ?_⟩⟩
    have s7 : Same H (upd H1 nm (.lst (nms.map V.str))) := s6.trans (same_new nnm)
    have hg2 : upd H1 nm (.lst (nms.map V.str)) dg = some (.lst (ds.map V.int)) := (same_new nnm) _ _ hdg
    have hn2 : upd H1 nm (.lst (nms.map V.str)) nm = some (.lst (nms.map V.str)) := upd_same
    have nnm0 : H nm = none := s6.free nnm
    have nnd0 : H nd = none := s7.free nnd
    have ned0 : H ed = none := (s7.trans (same_new nnd)).free ned
    have nde : nd ≠ ed := fun e => by rw [← e, upd_same] at ned; cases ned
    have ngd : dg ≠ nd := ne_new hg2 nnd
    have nnd' : nm ≠ nd := ne_new hn2 nnd
    have nge : dg ≠ ed := ne_new ((same_new nnd) _ _ hg2) ned
    have nne : nm ≠ ed := ne_new ((same_new nnd) _ _ hn2) ned
    have S0 : TrSt H dg nm nd ed ds 0 [] [] (upd (upd (upd H1 nm (.lst (nms.map V.str))) nd (.lst [])) ed (.lst [])) :=
      ⟨(s7.trans (same_new nnd)).trans (same_new ned), by rw [upd_ne nge, upd_ne ngd]; exact hg2, by rw [upd_ne nne, upd_ne nnd']; exact hn2, ⟨[], by rw [upd_ne nde, upd_same], .nil⟩, ⟨[], upd_same, .nil⟩, rfl, Nat.le_refl _, fun e he => (nomatch he), fun _ => rfl, fun h => absurd h (by decide)⟩
    refine ⟨_, rfl, 1 + d0, rfl, by omega, by omega, ?_⟩
    have em : (1 + d0).toNat = m := by omega
    rw [em]
    refine for_range (lo := 0) (n := m) (treeInv l dg nm nd ed k (1 + d0) ds H) ⟨none, none, none, none, none, none, [], [], rfl, S0⟩ (fun i σ' H' hi p' => ?_) fun σ' H' p' => ?_
    · obtain ⟨x8, x9, x10, x11, x12, x13, B, Es, rfl, S1⟩ := p'
      obtain ⟨x, hx⟩ : ∃ x, nms[i]? = some x := ⟨_, List.getElem?_eq_getElem (by rw [nms_len]; omega)⟩
      have i12 : i < 12 := by omega
      obtain ⟨d3, hd3⟩ := getd (3 + 3 * i) (by omega)
      obtain ⟨d4, hd4⟩ := getd (4 + 3 * i) (by omega)
      obtain ⟨d5, hd5⟩ := getd (5 + 3 * i) (by omega)
      have b5 := dok.bd _ d5 12 hd5 (tSizes_at i i12)
      obtain ⟨wt, hwt⟩ : ∃ wt, ([V.int d4, .int 0, .int (d4 * 20), .int 1])[d1.toNat]? = some (.int wt) := by
        have : d1.toNat = 0 ∨ d1.toNat = 1 ∨ d1.toNat = 2 ∨ d1.toNat = 3 := by omega
        rcases this with e | e | e | e <;> rw [e]
        · exact ⟨_, rfl⟩
        · exact ⟨_, rfl⟩
        · exact ⟨_, rfl⟩
        · exact ⟨_, rfl⟩
      -- weight
      refine ⟨_, rfl, _, rfl, _, _, rfl, rfl, .inl ⟨by omega, by omega⟩, _, _, rfl, rfl, dg, _, _, .int d4, rfl, rfl, SqL.of S1.hdg, at_of (j := 4 + 3 * i) (by omega) (gm hd4),
        _, rfl, _, rfl, _, _, rfl, rfl, .inl ⟨by omega, by omega⟩, _, _, rfl, rfl, dg, _, _, .int d4, rfl, rfl, SqL.of S1.hdg, at_of (j := 4 + 3 * i) (by omega) (gm hd4), _, _, rfl, rfl, .inr ⟨by omega, by omega⟩, (by show 4 ≤ sizeLine; decide), fun wl nwl => ?_⟩
      have S2 := S1.mono (same_new (o := .lst [V.int d4, .int 0, .int (d4 * 20), .int 1]) nwl)
      refine ⟨_, rfl, dg, _, _, .int d1, rfl, rfl, SqL.of S2.hdg, at_of (j := 1) rfl (gm hd1), wl, _, _, .int wt, rfl, rfl, SqL.of upd_same, at_of (j := d1.toNat) (by omega) hwt, ?_⟩
      have nwl0 : H wl = none := S1.same.free nwl
      generalize upd H' wl (.lst [V.int d4, .int 0, .int (d4 * 20), .int 1]) = H2 at *
      -- nodes.append
      obtain ⟨xs, hnd2, pnd2⟩ := S2.hnd
      have hmx : (nms.map V.str)[i]? = some (.str x) := by rw [List.getElem?_map, hx]; rfl
      have lB : B.length = i := by have := congrArg List.length S2.nB; rw [List.length_map, List.length_take, nms_len] at this; omega
      have lx := Paired.length pnd2
      refine ⟨_, rfl, .inl ⟨rfl, _, SqL.of hnd2⟩, _, rfl, _, rfl, nm, _, _, .str x, rfl, rfl, SqL.of S2.hnm, at_of (j := i) (by omega) hmx, _, rfl, le2, fun tp ntp => ⟨nd, _, _, rfl, rfl, (upd_ne (ne_new hnd2 ntp)).trans hnd2, small (by omega), ?_⟩⟩
      have tk : nms.take (i + 1) = nms.take i ++ [x] := by rw [List.take_add_one, hx]; rfl
      obtain ⟨ys, hed2, ped2⟩ := S2.hed
      have nde' : ed ≠ nd := nde.symm
      obtain ⟨xs3, hnd3, pnd3⟩ : ∃ xs3, (upd (upd H2 tp (.tup [.str x, .int wt])) nd (.lst (xs ++ [.ref tp]))) nd = some (.lst xs3) ∧ Paired (PairAt (upd (upd H2 tp (.tup [.str x, .int wt])) nd (.lst (xs ++ [.ref tp])))) xs3 (B ++ [(x, wt)]) := ⟨_, upd_same, app_pair hnd2 ntp pnd2⟩
      have st3 : TStay H2 (upd (upd H2 tp (.tup [.str x, .int wt])) nd (.lst (xs ++ [.ref tp]))) := app_stay hnd2 ntp
      have s3 : Same H (upd (upd H2 tp (.tup [.str x, .int wt])) nd (.lst (xs ++ [.ref tp]))) := same_own (S2.same.trans (same_new ntp)) nnd0
      have hdg3 : (upd (upd H2 tp (.tup [.str x, .int wt])) nd (.lst (xs ++ [.ref tp]))) dg = some (.lst (ds.map V.int)) := by rw [upd_ne ngd, upd_ne (ne_new S2.hdg ntp)]; exact S2.hdg
      have hnm3 : (upd (upd H2 tp (.tup [.str x, .int wt])) nd (.lst (xs ++ [.ref tp]))) nm = some (.lst (nms.map V.str)) := by rw [upd_ne nnd', upd_ne (ne_new S2.hnm ntp)]; exact S2.hnm
      have hed3 : (upd (upd H2 tp (.tup [.str x, .int wt])) nd (.lst (xs ++ [.ref tp]))) ed = some (.lst ys) := by rw [upd_ne nde', upd_ne (ne_new hed2 ntp)]; exact hed2
      have ped3 := trips_stay ped2 st3
      generalize upd (upd H2 tp (.tup [.str x, .int wt])) nd (.lst (xs ++ [.ref tp])) = H3 at *
      have nB3 : (B ++ [(x, wt)]).map (·.1) = nms.take (i + 1) := by rw [List.map_append, S2.nB, tk]; rfl
      have lE := S2.lE
      refine ⟨_, rfl, _, _, rfl, rfl, _, rfl, ?_⟩
      refine ite2 (fun h => ?_) (fun h => ?_)
      · have i0 : 0 < i := by have : (0 : Int) < 0 + (i : Int) := of_decide_eq_true h; omega
        obtain ⟨σ, G⟩ := S2.good i0
        refine ⟨_, rfl, _, rfl, _, _, rfl, rfl, .inl ⟨by omega, by omega⟩, _, _, rfl, rfl, dg, _, _, .int d3, rfl, rfl, SqL.of hdg3, at_of (j := 3 + 3 * i) (by omega) (gm hd3), _, rfl, _, _, rfl, rfl, by omega, ?_⟩
        refine ⟨_, rfl, dg, _, _, .int d2, rfl, rfl, SqL.of hdg3, at_of (j := 2) rfl (gm hd2), rfl, _, rfl, ?_⟩
        have om1 := Int.emod_nonneg d3 (show (0 : Int) + (i : Int) ≠ 0 by omega)
        have om2 := Int.emod_lt_of_pos d3 (show (0 : Int) < 0 + (i : Int) by omega)
        refine ite2 (fun h1 => ?p1) (fun h1 => ?p2)
        case' p1 =>
          refine ⟨_, rfl, _, _, rfl, rfl, ?_⟩
          obtain ⟨oth, ho, hol⟩ : ∃ oth : Nat, (oth : Int) = 0 + (i : Int) - 1 ∧ oth < i := ⟨i - 1, by omega, by omega⟩
        case' p2 =>
          obtain ⟨oth, ho, hol⟩ : ∃ oth : Nat, (oth : Int) = d3 % (0 + (i : Int)) ∧ oth < i := ⟨(d3 % (0 + (i : Int))).toNat, by omega, by omega⟩
        all_goals
          obtain ⟨y, hy⟩ : ∃ y, nms[oth]? = some y := ⟨_, List.getElem?_eq_getElem (by rw [nms_len]; omega)⟩
          have hmy : (nms.map V.str)[oth]? = some (.str y) := by rw [List.getElem?_map, hy]; rfl
          have yin : y ∈ nms.take i := List.mem_of_getElem? (i := oth) (by rw [List.getElem?_take_of_lt hol]; exact hy)
          have xout : x ∉ nms.take i := fun hm => by
            have nd2 := nms_nd
            rw [← List.take_append_drop (i + 1) nms, tk] at nd2
            have := (List.nodup_append.mp nd2).1
            exact (List.nodup_append.mp this).2.2 _ hm x List.mem_cons_self rfl
          -- length
          refine ⟨_, rfl, _, rfl, _, _, rfl, rfl, .inl ⟨by omega, by omega⟩, _, _, rfl, rfl, dg, _, _, .int d5, rfl, rfl, SqL.of hdg3, at_of (j := 5 + 3 * i) (by omega) (gm hd5), _, _, rfl, rfl, ?_⟩
          refine ⟨_, rfl, _, rfl, nm, _, _, .str x, rfl, rfl, SqL.of hnm3, at_of (j := i) (by omega) hmx, _, rfl, _, rfl, nm, _, _, .str y, rfl, rfl, SqL.of hnm3, at_of (j := oth) (by first | exact ho.symm | omega) hmy, le2, fun sl nsl => ⟨sl, [x, y], rfl, SqL.of upd_same, (by show 2 < 64; decide), fun zs sp pm _ nsp => ⟨sp, _, rfl, SqL.of upd_same, by rw [List.length_map, pm.length_eq]; rfl, ?_⟩⟩⟩
          have s4 := (same_new (o := .lst [V.str x, .str y]) nsl).trans (same_new (o := .lst (zs.map V.str)) nsp)
          have s5 := s3.trans s4
          have hdg4 := s4 _ _ hdg3
          have hnm4 := s4 _ _ hnm3
          have hnd4 := s4 _ _ hnd3
          have pnd4 := pairs_stay pnd3 (same_tstay s4)
          have hed4 := s4 _ _ hed3
          have ped4 := trips_stay ped3 (same_tstay s4)
          obtain ⟨a, b, rfl, hab⟩ : ∃ a b, zs = [a, b] ∧ ((a = x ∧ b = y) ∨ (a = y ∧ b = x)) := by
            rcases perm2 pm with e | e
            · exact ⟨x, y, e, .inl ⟨rfl, rfl⟩⟩
            · exact ⟨y, x, e, .inr ⟨rfl, rfl⟩⟩
          generalize upd (upd H3 sl (.lst [V.str x, .str y])) sp (.lst ([a, b].map V.str)) = H4 at *
          have ly := Paired.length ped4
          refine ⟨_, _, rfl, _, _, rfl, rfl, ?_⟩
          refine ⟨_, rfl, .inl ⟨rfl, _, SqL.of hed4⟩, _, rfl, _, rfl, _, rfl, le3, fun tp2 ntp2 => ⟨ed, _, _, rfl, rfl, (upd_ne (ne_new hed4 ntp2)).trans hed4, small (by omega), ?_⟩⟩
          refine ⟨_, _, _, _, _, _, B ++ [(x, wt)], Es ++ [(a, b, 1 + d5)], rfl, ⟨same_own (s5.trans (same_new ntp2)) ned0, by rw [upd_ne nge, upd_ne (ne_new hdg4 ntp2)]; exact hdg4, by rw [upd_ne nne, upd_ne (ne_new hnm4 ntp2)]; exact hnm4, ⟨xs3, by rw [upd_ne nde, upd_ne (ne_new hnd4 ntp2)]; exact hnd4, pairs_stay pnd4 (app_stay hed4 ntp2)⟩,
            ⟨_, upd_same, app_trip hed4 ntp2 ped4⟩, nB3, by rw [List.length_append, List.length_singleton]; omega, fun e he => ?_, fun h => absurd h (by omega), fun _ => ?_⟩⟩
          · rcases List.mem_append.mp he with h | h
            · exact S2.e999 e h
            · rw [List.mem_singleton.mp h]; show 1 + d5 ≤ 999; omega
          · rw [tk]; exact G.leaf xout yin (by omega) hab
      · have i0 : i = 0 := by have : ¬ (0 : Int) < 0 + (i : Int) := fun z => h (decide_eq_true z); omega
        have eE := S2.z i0
        refine ⟨_, _, _, _, _, _, B ++ [(x, wt)], Es, rfl, ⟨s3, hdg3, hnm3, ⟨xs3, hnd3, pnd3⟩, ⟨ys, hed3, ped3⟩, nB3, by omega, S2.e999, fun h => absurd h (by omega), fun _ => ?_⟩⟩
        rw [tk, i0, eE]
        exact ⟨fun _ _ => 0, Good.single x _⟩
    · obtain ⟨x8, x9, x10, x11, x12, x13, B, Es, rfl, S1⟩ := p'
      obtain ⟨xs, hnd2, pnd2⟩ := S1.hnd
      obtain ⟨σ, G⟩ := S1.good (by omega)
      have lE := S1.lE
      have lB : B.length ≤ m := by have := congrArg List.length S1.nB; rw [List.length_map, List.length_take, nms_len] at this; omega
      refine ⟨_, rfl, nd, xs, B, rfl, SqL.of hnd2, pnd2, fun xs' B' p1 hp1 pm1 srt1 np1 => .inl ⟨p1, xs', rfl, SqL.of upd_same, fun q1 nq1 => ?_⟩⟩
      have s2 := (same_new (o := .lst xs') np1).trans (same_new (o := .tup xs') nq1)
      have S2 := S1.mono s2
      obtain ⟨ys, hed2, ped2⟩ := S2.hed
      have hq1 : upd (upd H' p1 (.lst xs')) q1 (.tup xs') q1 = some (.tup xs') := upd_same
      have pp1 := pairs_stay hp1 (same_tstay s2)
      generalize upd (upd H' p1 (.lst xs')) q1 (.tup xs') = H2 at *
      refine ⟨_, rfl, ed, ys, Es, rfl, SqL.of hed2, ped2, fun ys' Es' p2 hp2 pm2 np2 => .inl ⟨p2, ys', rfl, SqL.of upd_same, fun q2 nq2 => ⟨le2, fun tp ntp => ?_⟩⟩⟩
      have s3 := (same_new (o := .lst ys') np2).trans (same_new (o := .tup ys') nq2)
      have s4 := s3.trans (same_new (o := .tup [V.ref q1, V.ref q2]) ntp)
      refine q _ tp B' Es' σ (S2.same.trans s4) ⟨tp, q1, q2, xs', ys', rfl, upd_same, s4 _ _ hq1, (same_new ntp) _ _ upd_same, pairs_stay pp1 (same_tstay s4), trips_stay hp2 (same_tstay s4)⟩ ⟨?_, ?_, ?_, ?_⟩ ?_ srt1
      · exact G.perm (by rw [← S1.nB]; exact (pm1.map _).symm) pm2.symm
      · rw [pm1.length_eq]; omega
      · rw [pm2.length_eq]; omega
      · exact fun e he => S1.e999 e (pm2.mem_iff.mp he)
      · intro e
        rw [e] at pm1
        have := pm1.length_eq
        have h2 := congrArg List.length S1.nB
        rw [List.length_map, List.length_take, nms_len] at h2
        simp at this
        omega
end
end K59

set_option Elab.async false
set_option linter.all false
set_option maxRecDepth 100000
set_option maxHeartbeats 4000000
namespace K59
open PySem PySem.Spec PyProof.Rows L2 GxR
/-- a load as the law draws it -/
structure LdG (N : List (Str × Int)) (hi : Int) (F : List (Str × Int)) : Prop where
  sub : ∀ q ∈ F, q.1 ∈ names N
  nd : (F.map (·.1)).Nodup
  srt : F.Pairwise fun a b => sle a.1 b.1
  bd : ∀ q ∈ F, 1 ≤ q.2 ∧ q.2 ≤ hi
theorem LdG.le {N : List (Str × Int)} {hi hi' : Int} {F : List (Str × Int)} (h : LdG N hi F) (e : hi ≤ hi') : LdG N hi' F := ⟨h.sub, h.nd, h.srt, fun q hq => ⟨(h.bd q hq).1, Int.le_trans (h.bd q hq).2 e⟩⟩
theorem LdG.len {N : List (Str × Int)} {hi : Int} {F : List (Str × Int)} (h : LdG N hi F) : F.length ≤ N.length := by
  have := List.Nodup.length_le_of_subset h.nd (l₂ := names N) fun x hx => by
    obtain ⟨q, hq, rfl⟩ := List.mem_map.mp hx
    exact h.sub q hq
  rw [List.length_map] at this
  have e : (names N).length = N.length := List.length_map ..
  omega
theorem LdG.fix {N : List (Str × Int)} {hi : Int} {F F' : List (Str × Int)} {nm : Str} {v : Int} (h : LdG N hi F) (hh : hi ≤ 999) (hn : nm ∈ names N) (h0 : 1 ≤ v) (h1 : v ≤ 999) (pm : F'.Perm (F.filter (fun q => !decide (q.1 = nm)) ++ [(nm, v)])) (srt : F'.Pairwise fun a b => sle a.1 b.1) : LdG N 999 F' := by
  refine ⟨fun q hq => ?_, ?_, srt, fun q hq => ?_⟩
  · rcases List.mem_append.mp (pm.mem_iff.mp hq) with h' | h'
    · exact h.sub q (List.mem_filter.mp h').1
    · rw [List.mem_singleton.mp h']; exact hn
  · rw [(pm.map (·.1)).nodup_iff, List.map_append]
    refine List.nodup_append.mpr ⟨h.nd.sublist ((List.filter_sublist).map _), by simp, fun a ha b hb e => ?_⟩
    obtain ⟨q, hq, rfl⟩ := List.mem_map.mp ha
    have hb' : b = nm := by simpa using hb
    have := (List.mem_filter.mp hq).2
    rw [e, hb'] at this
    simp at this
  · rcases List.mem_append.mp (pm.mem_iff.mp hq) with h' | h'
    · have := h.bd q (List.mem_filter.mp h').1
      exact ⟨this.1, by omega⟩
    · rw [List.mem_singleton.mp h']; exact ⟨h0, h1⟩
theorem LdG.sum_le {N : List (Str × Int)} {hi : Int} {F : List (Str × Int)} (h : LdG N hi F) (h0 : 0 ≤ hi) (hN : N.length ≤ 12) : 0 ≤ sm F (fun q => q.2) ∧ sm F (fun q => q.2) ≤ 12 * hi := by
  have key : ∀ l : List (Str × Int), (∀ q ∈ l, 1 ≤ q.2 ∧ q.2 ≤ hi) → 0 ≤ sm l (fun q => q.2) ∧ sm l (fun q => q.2) ≤ l.length * hi := fun l => by
    induction l with
    | nil => intro _; rw [sm_nil]; simp
    | cons q l ih =>
      intro h
      have := ih fun x hx => h x (List.mem_cons_of_mem _ hx)
      have := h q List.mem_cons_self
      rw [sm_cons, List.length_cons]
      have e : ((l.length + 1 : Nat) : Int) * hi = l.length * hi + hi := by rw [Int.natCast_add, Int.add_mul]; simp
      rw [e]; omega
  have := key F h.bd
  have := h.len
  have e : (F.length : Int) * hi ≤ 12 * hi := Int.mul_le_mul_of_nonneg_right (by omega) h0
  omega
theorem LdG.val_le {N : List (Str × Int)} {hi : Int} {F : List (Str × Int)} (h : LdG N hi F) (h0 : 0 ≤ hi) (x : Str) : 0 ≤ val F x ∧ val F x ≤ hi := by
  by_cases hx : x ∈ F.map (·.1)
  · obtain ⟨⟨y, n⟩, hq, e⟩ := List.mem_map.mp hx
    have e : y = x := e
    subst e
    rw [val_mem h.nd hq]
    have := h.bd _ hq
    simp only at this
    omega
  · rw [val_out fun q hq e => hx (List.mem_map.mpr ⟨q, hq, e⟩)]; omega
theorem LdG.of_sub {N : List (Str × Int)} {hi : Int} {F : List (Str × Int)} {ks : List Str} (hk : ks.Sublist (names N)) (nd : (names N).Nodup) (srt : N.Pairwise fun a b => sle a.1 b.1) (hs : (F.map (·.1)).Sublist ks) (bd : ∀ q ∈ F, 1 ≤ q.2 ∧ q.2 ≤ hi) : LdG N hi F := by
  have s := hs.trans hk
  refine ⟨fun q hq => s.mem (List.mem_map.mpr ⟨q, hq, rfl⟩), nd.sublist s, ?_, bd⟩
  have p : (names N).Pairwise sle := by unfold names; rw [List.pairwise_map]; exact srt
  have := p.sublist s
  rw [List.pairwise_map] at this
  exact this
/-- the two lists under way -/
structure LoSt (H0 : Hp) (dg mr nl fs sd : Addr) (ds ms : List Int) (N : List (Str × Int)) (i j : Nat) (F S : List (Str × Int)) (H' : Hp) : Prop where
  same : Same H0 H'
  hdg : H' dg = some (.lst (ds.map V.int))
  hmr : H' mr = some (.lst (ms.map V.int))
  hnl : H' nl = some (.lst ((names N).map V.str))
  hf : ∃ xs, H' fs = some (.lst xs) ∧ Paired (PairAt H') xs F
  hs : ∃ xs, H' sd = some (.lst xs) ∧ Paired (PairAt H') xs S
  sf : (F.map (·.1)).Sublist ((names N).take i)
  ss : (S.map (·.1)).Sublist ((names N).take j)
  bf : ∀ q ∈ F, 1 ≤ q.2 ∧ q.2 ≤ 30
  bs : ∀ q ∈ S, 1 ≤ q.2 ∧ q.2 ≤ 30
structure LoNe (H0 : Hp) (dg mr nl fs sd : Addr) : Prop where
  f0 : H0 fs = none
  s0 : H0 sd = none
  f1 : fs ≠ dg
  f2 : fs ≠ mr
  f3 : fs ≠ nl
  s1 : sd ≠ dg
  s2 : sd ≠ mr
  s3 : sd ≠ nl
  fs : fs ≠ sd
theorem take_sub {l : List Str} (i : Nat) : (l.take i).Sublist (l.take (i + 1)) := by
  rw [List.take_add_one]; exact List.sublist_append_left _ _
theorem LoSt.skipF {H0 : Hp} {dg mr nl fs sd : Addr} {ds ms : List Int} {N : List (Str × Int)} {i j : Nat} {F S : List (Str × Int)} {H' : Hp} (h : LoSt H0 dg mr nl fs sd ds ms N i j F S H') : LoSt H0 dg mr nl fs sd ds ms N (i + 1) j F S H' :=
  ⟨h.same, h.hdg, h.hmr, h.hnl, h.hf, h.hs, h.sf.trans (take_sub i), h.ss, h.bf, h.bs⟩
theorem LoSt.skipS {H0 : Hp} {dg mr nl fs sd : Addr} {ds ms : List Int} {N : List (Str × Int)} {i j : Nat} {F S : List (Str × Int)} {H' : Hp} (h : LoSt H0 dg mr nl fs sd ds ms N i j F S H') : LoSt H0 dg mr nl fs sd ds ms N i (j + 1) F S H' :=
  ⟨h.same, h.hdg, h.hmr, h.hnl, h.hf, h.hs, h.sf, h.ss.trans (take_sub j), h.bf, h.bs⟩
theorem sub_more {l ks : List Str} {i : Nat} {x : Str} (h : ks.Sublist (l.take i)) (hx : l[i]? = some x) : (ks ++ [x]).Sublist (l.take (i + 1)) := by
  rw [List.take_add_one, hx]
  exact h.append (List.Sublist.refl _)
theorem LoSt.addF {H0 : Hp} {dg mr nl fs sd tp : Addr} {ds ms : List Int} {N : List (Str × Int)} {i j : Nat} {F S : List (Str × Int)} {H' : Hp} {xs : List V} {x : Str} {v : Int} (h : LoSt H0 dg mr nl fs sd ds ms N i j F S H') (ne : LoNe H0 dg mr nl fs sd) (hx : (names N)[i]? = some x) (h1 : 1 ≤ v) (h2 : v ≤ 30)
    (hl : H' fs = some (.lst xs)) (hp : Paired (PairAt H') xs F) (nt : H' tp = none) : LoSt H0 dg mr nl fs sd ds ms N (i + 1) j (F ++ [(x, v)]) S (upd (upd H' tp (.tup [.str x, .int v])) fs (.lst (xs ++ [.ref tp]))) := by
  obtain ⟨ys, hs, ps⟩ := h.hs
  refine ⟨same_own (h.same.trans (same_new nt)) ne.f0, ?_, ?_, ?_, ⟨_, upd_same, app_pair hl nt hp⟩, ⟨ys, ?_, pairs_stay ps (app_stay hl nt)⟩, ?_, h.ss, fun q hq => ?_, h.bs⟩
  · rw [upd_ne ne.f1.symm, upd_ne (ne_new h.hdg nt)]; exact h.hdg
  · rw [upd_ne ne.f2.symm, upd_ne (ne_new h.hmr nt)]; exact h.hmr
  · rw [upd_ne ne.f3.symm, upd_ne (ne_new h.hnl nt)]; exact h.hnl
  · rw [upd_ne ne.fs.symm, upd_ne (ne_new hs nt)]; exact hs
  · rw [List.map_append]; exact sub_more h.sf hx
  · rcases List.mem_append.mp hq with h' | h'
    · exact h.bf q h'
    · rw [List.mem_singleton.mp h']; exact ⟨h1, h2⟩
theorem LoSt.addS {H0 : Hp} {dg mr nl fs sd tp : Addr} {ds ms : List Int} {N : List (Str × Int)} {i j : Nat} {F S : List (Str × Int)} {H' : Hp} {xs : List V} {x : Str} {v : Int} (h : LoSt H0 dg mr nl fs sd ds ms N i j F S H') (ne : LoNe H0 dg mr nl fs sd) (hx : (names N)[j]? = some x) (h1 : 1 ≤ v) (h2 : v ≤ 30)
    (hl : H' sd = some (.lst xs)) (hp : Paired (PairAt H') xs S) (nt : H' tp = none) : LoSt H0 dg mr nl fs sd ds ms N i (j + 1) F (S ++ [(x, v)]) (upd (upd H' tp (.tup [.str x, .int v])) sd (.lst (xs ++ [.ref tp]))) := by
  obtain ⟨ys, hs, ps⟩ := h.hf
  refine ⟨same_own (h.same.trans (same_new nt)) ne.s0, ?_, ?_, ?_, ⟨ys, ?_, pairs_stay ps (app_stay hl nt)⟩, ⟨_, upd_same, app_pair hl nt hp⟩, h.sf, ?_, h.bf, fun q hq => ?_⟩
  · rw [upd_ne ne.s1.symm, upd_ne (ne_new h.hdg nt)]; exact h.hdg
  · rw [upd_ne ne.s2.symm, upd_ne (ne_new h.hmr nt)]; exact h.hmr
  · rw [upd_ne ne.s3.symm, upd_ne (ne_new h.hnl nt)]; exact h.hnl
  · rw [upd_ne ne.fs, upd_ne (ne_new hs nt)]; exact hs
  · rw [List.map_append]; exact sub_more h.ss hx
  · rcases List.mem_append.mp hq with h' | h'
    · exact h.bs q h'
    · rw [List.mem_singleton.mp h']; exact ⟨h1, h2⟩
def loInv (l dg mr nl fs sd : Addr) (k : Int) (t : V) (ds ms : List Int) (N : List (Str × Int)) (H0 : Hp) (i : Nat) (σ' : L2.St) (H' : Hp) : Prop :=
  ∃ (x8 : Option V) (F S : List (Str × Int)), σ' = [some (.ref l), some (.int k), some t, some (.ref dg), some (.ref mr), some (.ref nl), some (.ref fs), some (.ref sd), x8, none, none, none, none] ∧ LoSt H0 dg mr nl fs sd ds ms N i i F S H'
def lSizes (z : Int) : List Int := (List.replicate 12 [5, 30]).flatten ++ [z]
section
variable {P : Program} {w : World} {K : PySem.W.Frag} {mg : Str → Option Value} {base : Heap}
theorem ok_lnames {f : Addr} {fd : FuncData} (F : Fun K "_law_names" "_law_names" sLNames f fd) : FnOk P w K mg base CX0 1 f fd ["_law_tree_here"] spNames := by
  refine F.ok scLNames (fun vs H Q E h => ?_) (fun cdv A outer s H vs Q E hr h => ?_)
  · obtain ⟨t, N, E, rfl, _⟩ := h
    rfl
  · obtain ⟨t, N, E, rfl, hT, hN, q⟩ := h
    refine ⟨_, pss_one (ps_ret (pe_lc (own := [("_law_name", 1), ("_law_weight", 2)]) (g := gTup K 2 (gCons (gName 1) (gCons (gName 2) gNil))) (tt := tYes) rfl scLNames.nd (pi_tup (pe_ix ix_tup (pv 0) pe_int (fun _ _ => rfl)))
      (blkOk_by (N := ["_law_tree_here", "_law_name", "_law_weight"]) (sc := defScope sLNames) (by decide +kernel))
      (fun _ _ _ _ _ => pg_tup rfl (pgs_cons (pg_name (i := 1) scLNames.nd rfl (Or.inl rfl)) (pgs_cons (pg_name (i := 2) scLNames.nd rfl (Or.inl rfl)) pgs_nil))) (fun _ _ _ _ _ => pts_nil) (fun _ _ _ _ _ => pv 1))), ?_⟩
    obtain ⟨a, n, e, ns, es, rfl, h1, h2, h3, h4, h5⟩ := hT
    refine ⟨_, rfl, a, _, 0, .ref n, rfl, rfl, SqT.of h1, at_of (j := 0) rfl rfl, n, rfl, ⟨ns, SqT.of h2⟩, fun D hD => ?_⟩
    refine lc_tup (K := K) (a := n) (xs := ns) (fun i H' => Same H H' ∧ H' D = some (.lst (((names N).take i).map V.str))) ⟨same_new hD, by rw [upd_same]; rfl⟩ (fun i H' _ p => SqT.of (p.1 _ _ h2)) (fun i x H' hi p => ?_) fun H' p => ?_
    · obtain ⟨⟨m, wt⟩, hN', b, rfl, hb⟩ := paired_at h4 hi
      obtain ⟨s1, hl⟩ := p
      have hm : (names N)[i]? = some m := by unfold names; rw [List.getElem?_map, hN']; rfl
      refine ⟨b, _, rfl, SqT.of (s1 _ _ hb), rfl, _, _, rfl, _, _, rfl, rfl, rfl, ?_⟩
      refine ⟨_, rfl, _, hl, ?_, same_own s1 hD, ?_⟩
      · rw [List.length_map, List.length_take]; have : (names N).length = N.length := List.length_map ..; rw [sizeLine_eq]; omega
      · rw [upd_same, List.take_add_one, hm]; simp
    · obtain ⟨s1, hl⟩ := p
      have e1 : ns.length = (names N).length := by rw [Paired.length h4]; exact (List.length_map ..).symm
      rw [e1, List.take_length] at hl
      exact q H' D s1 hD hl
def spSum : Sp := fun vs H Q _ => ∃ (v : V) (F : List (Str × Int)), vs = [v] ∧ LoadAt H v F ∧ F.length ≤ 100 ∧ ∀ H', Same H H' → Q (.int (sm F fun q => q.2)) H'
theorem ok_sum {f : Addr} {fd : FuncData} (F : Fun K "_law_sum" "_law_sum" sSum f fd) (bl : Blt mg) : FnOk P w K mg base CX0 1 f fd ["_law_load"] spSum := by
  refine F.ok scSum (fun vs H Q E h => ?_) (fun cdv A outer s H vs Q E hr h => ?_)
  · obtain ⟨v, F, rfl, _⟩ := h
    rfl
  · obtain ⟨v, F, rfl, hf, hl, q⟩ := h
    refine ⟨_, pss_one (ps_ret (pe_callB (cr_sum rfl) (by rfl) bl.sum boot_sum (pa_cons (pe_lc (own := [("_law_name", 1), ("_law_many", 2)]) (g := gTup K 2 (gCons (gName 1) (gCons (gName 2) gNil))) (tt := tYes) rfl scSum.nd (pi_list (pv 0))
          (blkOk_by (N := ["_law_load", "_law_name", "_law_many"]) (sc := defScope sSum) (by decide +kernel))
          (fun _ _ _ _ _ => pg_tup rfl (pgs_cons (pg_name (i := 1) scSum.nd rfl (Or.inl rfl)) (pgs_cons (pg_name (i := 2) scSum.nd rfl (Or.inl rfl)) pgs_nil))) (fun _ _ _ _ _ => pts_nil) (fun _ _ _ _ _ => pv 2)) pa_nil))), ?_⟩
    dsimp only [tRet, tCB, tCons, tNil]
    refine rd_snd rfl hf hl (fun _ _ => rfl) (fun _ _ => rfl) fun H1 D1 s1 n1 h1 => ⟨D1, _, rfl, SqL.of h1, ?_⟩
    rw [sum_snd]
    exact q H1 s1
theorem modp {i : Int} {n : Nat} (h : 0 < n) : (i % (n : Int)).toNat < n ∧ i % (n : Int) = (((i % (n : Int)).toNat : Nat) : Int) := by
  have a := Int.emod_nonneg i (b := n) (by omega)
  have b := Int.emod_lt_of_pos i (b := n) (by omega)
  omega
theorem seq_asg {te : TE} {g : TG} {r : TS} {D : Ends} {σ : L2.St} {H : Hp} (h : te σ H fun x H1 => g x σ H1 (r D)) : tSeq (tAsg te g) r D σ H := h
theorem asg_in {te : TE} {g : TG} {D : Ends} {σ : L2.St} {H : Hp} (h : te σ H fun x H1 => g x σ H1 D.nx) : tAsg te g D σ H := h
/-- sum([number for name, number in one]) - sum([number for name, number in other]) -/
theorem rd_gap {K : PySem.W.Frag} {i j a b : Nat} {σ : L2.St} {H : Hp} {Q : VK} {v u : V} {F S : List (Str × Int)} (hv : σ[i]? = some (some v)) (hu : σ[j]? = some (some u)) (hf : LoadAt H v F) (hs : LoadAt H u S) (hF : F.length ≤ 100) (hS : S.length ≤ 100)
    (hw : ∀ x y, wipe (((wipe σ [a, b]).set a x).set b y) [a, b] = wipe σ [a, b]) (hb : ∀ x y, (((wipe σ [a, b]).set a x).set b y)[b]? = some y)
    (q : ∀ H', Same H H' → Q (.int (sm F (fun q => q.2) - sm S fun q => q.2)) H') :
    tOp (rI0 fun i j => .int (i - j)) (tCB (rSum K) (tCons (tLc (iList K (tVar i)) (gTup K 2 (gCons (gName a) (gCons (gName b) gNil))) tYes (tVar b) [a, b]) tNil)) (tCB (rSum K) (tCons (tLc (iList K (tVar j)) (gTup K 2 (gCons (gName a) (gCons (gName b) gNil))) tYes (tVar b) [a, b]) tNil)) σ H Q := by
  dsimp only [tOp, tCB, tCons, tNil]
  refine rd_snd hv hf hF hw hb fun H1 D1 s1 n1 h1 => ⟨D1, _, rfl, SqL.of h1, ?_⟩
  refine rd_snd hu (hs.same s1) hS hw hb fun H2 D2 s2 n2 h2 => ⟨D2, _, rfl, SqL.of h2, _, _, rfl, rfl, ?_⟩
  rw [sum_snd, sum_snd]
  exact q H2 (s1.trans s2)
/-- [pair for pair in load if pair[0] != name] -/
theorem rd_drop {K : PySem.W.Frag} {i a b : Nat} {σ : L2.St} {H : Hp} {Q : VK} {v : V} {F : List (Str × Int)} {nm : Str} (hv : σ[i]? = some (some v)) (hl : LoadAt H v F) (hF : F.length ≤ 100)
    (hw : ∀ x, wipe ((wipe σ [a]).set a x) [a] = wipe σ [a]) (ha : ∀ x, ((wipe σ [a]).set a x)[a]? = some x) (hb : ∀ x, ((wipe σ [a]).set a x)[b]? = some (some (.str nm)))
    (q : ∀ H' D xs, Same H H' → H D = none → H' D = some (.lst xs) → Paired (PairAt H') xs (F.filter fun q => !decide (q.1 = nm)) → Q (.ref D) H') :
    tLc (iList K (tVar i)) (gName a) (tTest (tOp rNe (tOp (rIxT K) (tVar a) (tC (.int 0))) (tVar b))) (tVar a) [a] σ H Q := by
  obtain ⟨l, xs, rfl, hL, hp⟩ := hl
  refine ⟨_, hv, l, rfl, ⟨xs, SqL.of hL⟩, fun D hD => ?_⟩
  refine lc_list (K := K) (a := l) (xs := xs) (fun i H' => Same H H' ∧ ∃ ys, H' D = some (.lst ys) ∧ Paired (PairAt H') ys ((F.take i).filter fun q => !decide (q.1 = nm))) ⟨same_new hD, [], upd_same, .nil⟩ (fun i H' _ p => SqL.of (p.1 _ _ hL)) (fun i x H' hi p => ?_) fun H' p => ?_
  · obtain ⟨s1, ys, hl, hpy⟩ := p
    obtain ⟨⟨m, n⟩, hm, bb, rfl, hbb⟩ := paired_at hp hi
    have hl2 := Paired.length hpy
    have fl := List.length_filter_le (fun q : Str × Int => !decide (q.1 = nm)) (F.take i)
    rw [List.length_take] at fl
    have tk : (F.take (i + 1)).filter (fun q => !decide (q.1 = nm)) = (F.take i).filter (fun q => !decide (q.1 = nm)) ++ (if m = nm then [] else [(m, n)]) := by
      rw [List.take_add_one, hm, List.filter_append]
      congr 1
      by_cases c : m = nm <;> simp [c]
    refine ⟨hw _, _, ha _, bb, _, 0, .str m, rfl, rfl, SqT.of (s1 _ _ hbb), at_of (j := 0) rfl rfl, _, hb _, rfl, _, rfl, ?_⟩
    refine ite2 (fun h => ?_) (fun h => ?_)
    · have hne : ¬ m = nm := fun e => by rw [e] at h; simp at h
      refine ⟨_, ha _, ys, hl, small (by omega), same_own s1 hD, _, upd_same, ?_⟩
      rw [tk, if_neg hne]
      refine Paired.snoc (pairs_stay hpy (tstay_upd hl fun ys z => nomatch z)) ⟨bb, rfl, ?_⟩
      rw [upd_ne fun e => by rw [e] at hbb; rw [s1 _ _ hbb] at hl; cases hl]
      exact s1 _ _ hbb
    · have he : m = nm := Classical.byContradiction fun e => h (by simp [e])
      refine ⟨s1, ys, hl, ?_⟩
      rw [tk, if_pos he, List.append_nil]; exact hpy
  · obtain ⟨s1, ys, hl, hpy⟩ := p
    rw [Paired.length hp, List.take_length] at hpy
    exact q H' D ys s1 hD hl hpy
/-- sorted([pair for pair in load if pair[0] != name] + [(name, number)]) -/
theorem rd_fix {K : PySem.W.Frag} {i a b : Nat} {σ : L2.St} {H : Hp} {Q : VK} {v : V} {F : List (Str × Int)} {nm : Str} {n : Int} {te : TE} (hv : σ[i]? = some (some v)) (hl : LoadAt H v F) (hF : F.length ≤ 100)
    (hw : ∀ x, wipe ((wipe σ [a]).set a x) [a] = wipe σ [a]) (ha : ∀ x, ((wipe σ [a]).set a x)[a]? = some x) (hb : ∀ x, ((wipe σ [a]).set a x)[b]? = some (some (.str nm))) (hb' : σ[b]? = some (some (.str nm)))
    (ht : ∀ H' Q', Same H H' → (∀ H'', Same H' H'' → Q' (V.int n) H'') → te σ H' Q')
    (q : ∀ H' p F', Same H H' → LoadAt H' (.ref p) F' → F'.Perm (F.filter (fun q => !decide (q.1 = nm)) ++ [(nm, n)]) → F'.Pairwise (fun a b => sle a.1 b.1) → Q (.ref p) H') :
    tCB (fun vs H Q => ∃ (a : Addr) (xs : List V) (F : List (Str × Int)), vs = [.ref a] ∧ SqL K H a xs ∧ Paired (PairAt H) xs F ∧
      ∀ xs' F' p, Paired (PairAt H) xs' F' → F'.Perm F → F'.Pairwise (fun a b => sle a.1 b.1) → H p = none → Q (.ref p) (upd H p (.lst xs')))
      (tCons (tOp rCat (tLc (iList K (tVar i)) (gName a) (tTest (tOp rNe (tOp (rIxT K) (tVar a) (tC (.int 0))) (tVar b))) (tVar a) [a]) (tLst (tCons (tTup (tCons (tVar b) (tCons te tNil))) tNil))) tNil) σ H Q := by
  dsimp only [tCB, tCons, tNil, tOp]
  refine rd_drop hv hl hF hw ha hb fun H1 D xs s1 nD hD hp => ?_
  refine ⟨_, hb', ht H1 _ s1 fun H2 s2 => ⟨le2, fun tp ntp => ⟨(by show 1 ≤ sizeLine; decide), fun l1 nl1 => ?_⟩⟩⟩
  have s3 : Same H2 (upd H2 tp (.tup [.str nm, .int n])) := same_new ntp
  have htp : upd H2 tp (.tup [.str nm, .int n]) tp = some (.tup [.str nm, .int n]) := upd_same
  generalize upd H2 tp (.tup [.str nm, .int n]) = H3 at *
  have s4 : Same H3 (upd H3 l1 (.lst [.ref tp])) := same_new nl1
  have hl1 : upd H3 l1 (.lst [.ref tp]) l1 = some (.lst [.ref tp]) := upd_same
  generalize upd H3 l1 (.lst [.ref tp]) = H4 at *
  have s5 := (s2.trans s3).trans s4
  have fl := List.length_filter_le (fun q : Str × Int => !decide (q.1 = nm)) F
  have xl := Paired.length hp
  refine ⟨D, l1, xs, [.ref tp], rfl, rfl, s5 _ _ hD, hl1, Nat.le_of_lt (small (by simp only [List.length_cons, List.length_nil]; omega)), fun l2 nl2 => ?_⟩
  have s6 : Same H4 (upd H4 l2 (.lst (xs ++ [.ref tp]))) := same_new nl2
  refine ⟨l2, _, _, rfl, SqL.of upd_same, paired_append (pairs_stay hp (same_tstay (s5.trans s6))) (show Paired (PairAt _) [V.ref tp] [(nm, n)] from .cons ⟨tp, rfl, s6 _ _ (s4 _ _ htp)⟩ .nil), fun xs' F' p hp' pm srt np => ?_⟩
  exact q _ p F' ((s1.trans (s5.trans s6)).trans (same_new np)) ⟨p, xs', rfl, upd_same, pairs_stay hp' (tstay_new np)⟩ pm srt
theorem get_val {F : List (Str × Int)} (nd : (F.map (·.1)).Nodup) (nm : Str) : (valV (dI (F.map (·.1)) (val F)) (Sum.inr nm)).getD (V.int 0) = .int (val F nm) := by
  by_cases h : nm ∈ F.map (·.1)
  · rw [dV_get h]; rfl
  · rw [dV_no h, val_out fun q hq e => h (List.mem_map.mpr ⟨q, hq, e⟩)]; rfl
abbrev scopeL : List Str := ["_law_script", "_law_k", "_law_tree_here", "_law_digits", "_law_more", "_law_names_here", "_law_first", "_law_second", "_law_j", "_law_name", "_law_gap", "_law_many", "_law_pair"]
def spLoads (K : PySem.W.Frag) : Sp := fun vs H Q _ => ∃ (l : Addr) (ns : List Int) (k : Int) (t : V) (N : List (Str × Int)) (E : List Ed'), vs = [.ref l, .int k, t] ∧ SqL K H l (ns.map V.int) ∧ 0 ≤ k ∧ k ≤ 900 ∧ TreeAt H t N E ∧ N.length ≤ 12 ∧ N ≠ [] ∧ (names N).Nodup ∧ N.Pairwise (fun a b => sle a.1 b.1) ∧
  ∀ H' p a b F S, Same H H' → H' p = some (.tup [.ref a, .ref b]) → LoadAt H' (.ref a) F → LoadAt H' (.ref b) S → LdG N 999 F → LdG N 999 S → Q (.ref p) H'
theorem ok_loads {f fD fN : Addr} {fd fdD fdN : FuncData} (F : Fun K "_law_loads" "_law_loads" sLoads f fd) (bl : Blt mg) (GD : FnOk P w K mg base CX0 2 fD fdD ["_law_script", "_law_k", "_law_sizes"] (spDraw K)) (cD : Cal K mg "_law_draw" fD fdD ["_law_script", "_law_k", "_law_sizes"])
    (GN : FnOk P w K mg base CX0 1 fN fdN ["_law_tree_here"] spNames) (cN : Cal K mg "_law_names" fN fdN ["_law_tree_here"]) :
    FnOk P w K mg base CX0 3 f fd ["_law_script", "_law_k", "_law_tree_here"] (spLoads K) := by
  refine F.ok scLoads (fun vs H Q E h => ?_) (fun cdv A outer s H vs Q E hr h => ?_)
  · obtain ⟨l, ns, k, t, N, E, rfl, _⟩ := h
    rfl
  · obtain ⟨l, ns, k, t, N, E, rfl, hs, hk0, hk1, hT, n12, hN, nnd, nsrt, q⟩ := h
    have hu := hu_of hr
    have hr1 : Room 1 _ := hr.mono (by decide)
    refine ⟨_, pss_cons (ps_set (i := 3) scLoads.nd rfl (.inl rfl) (pe_call GD hr (by rfl) cD.m cD.kp cD.b .nil pass0 (pa_cons (pv 0) (pa_cons (pv 1) (pa_cons (pe_op op_cat (pe_op op_rep (pe_lst (pa_cons pe_int (pa_cons pe_int pa_nil))) pe_int) (pe_lst (pa_cons pe_int pa_nil))) pa_nil)))))
      (pss_cons (ps_set (i := 4) scLoads.nd rfl (.inl rfl) (pe_call GD hr (by rfl) cD.m cD.kp cD.b .nil pass0 (pa_cons (pv 0) (pa_cons (pe_op op_add (pv 1) pe_int) (pa_cons (pe_op op_cat (pe_op op_rep (pe_lst (pa_cons pe_int (pa_cons pe_int pa_nil))) pe_int) (pe_lst (pa_cons pe_int pa_nil))) pa_nil)))))
      (pss_cons (ps_set (i := 5) scLoads.nd rfl (.inl rfl) (pe_call GN hr1 (by rfl) cN.m cN.kp cN.b .nil pass0 (pa_cons (pv 2) pa_nil)))
      (pss_cons (ps_set (i := 6) scLoads.nd rfl (.inl rfl) (pe_lst pa_nil))
      (pss_cons (ps_set (i := 7) scLoads.nd rfl (.inl rfl) (pe_lst pa_nil))
      (pss_cons (ps_for PassesOwn.never rfl (pi_range1 (by rfl) bl.range (pa_cons (pe_callB call_len_seq (by rfl) bl.len boot_len (pa_cons (pv 5) pa_nil)) pa_nil)) (pg_name (i := 8) scLoads.nd rfl (.inl rfl))
        (pss_cons (ps_if (pt_cmpR op_lt (pe_ix ix_list (pv 3) (pe_op op_mul pe_int (pv 8)) (fun _ _ => rfl)) pe_int (nomark _))
          (pss_one (ps_expr (pe_bm PySem.F.plainAttrs_list PySem.F.slot_list_append PySem.F.type_list_append mt_append (pv 6) (pa_cons (pe_tup (pa_cons (pe_ix ix_list (pv 5) (pv 8) (fun _ _ => rfl)) (pa_cons (pe_op op_add pe_int (pe_ix ix_list (pv 3) (pe_op op_add (pe_op op_mul pe_int (pv 8)) pe_int) (fun _ _ => rfl))) pa_nil))) pa_nil)))) pss_nil)
        (pss_one (ps_if (pt_cmpR op_lt (pe_ix ix_list (pv 4) (pe_op op_mul pe_int (pv 8)) (fun _ _ => rfl)) pe_int (nomark _))
          (pss_one (ps_expr (pe_bm PySem.F.plainAttrs_list PySem.F.slot_list_append PySem.F.type_list_append mt_append (pv 7) (pa_cons (pe_tup (pa_cons (pe_ix ix_list (pv 5) (pv 8) (fun _ _ => rfl)) (pa_cons (pe_op op_add pe_int (pe_ix ix_list (pv 4) (pe_op op_add (pe_op op_mul pe_int (pv 8)) pe_int) (fun _ _ => rfl))) pa_nil))) pa_nil)))) pss_nil))))
      (pss_cons (ps_set (i := 10) scLoads.nd rfl (.inl rfl) (pe_op op_sub
        (pe_callB (cr_sum rfl) (by rfl) bl.sum boot_sum (pa_cons (pe_lc (own := [("_law_name", 9), ("_law_many", 11)]) (g := gTup K 2 (gCons (gName 9) (gCons (gName 11) gNil))) (tt := tYes) rfl scLoads.nd (pi_list (pv 6)) (blkOk_by (N := scopeL) (sc := defScope sLoads) (by decide +kernel))
          (fun _ _ _ _ _ => pg_tup rfl (pgs_cons (pg_name (i := 9) scLoads.nd rfl (Or.inl rfl)) (pgs_cons (pg_name (i := 11) scLoads.nd rfl (Or.inl rfl)) pgs_nil))) (fun _ _ _ _ _ => pts_nil) (fun _ _ _ _ _ => pv 11)) pa_nil))
        (pe_callB (cr_sum rfl) (by rfl) bl.sum boot_sum (pa_cons (pe_lc (own := [("_law_name", 9), ("_law_many", 11)]) (g := gTup K 2 (gCons (gName 9) (gCons (gName 11) gNil))) (tt := tYes) rfl scLoads.nd (pi_list (pv 7)) (blkOk_by (N := scopeL) (sc := defScope sLoads) (by decide +kernel))
          (fun _ _ _ _ _ => pg_tup rfl (pgs_cons (pg_name (i := 9) scLoads.nd rfl (Or.inl rfl)) (pgs_cons (pg_name (i := 11) scLoads.nd rfl (Or.inl rfl)) pgs_nil))) (fun _ _ _ _ _ => pts_nil) (fun _ _ _ _ _ => pv 11)) pa_nil))))
      (pss_cons (ps_set (i := 9) scLoads.nd rfl (by first | exact .inl rfl | exact .inr rfl) (pe_ix ix_list (pv 5) (pe_op op_mod (pe_ix ix_list (pv 3) pe_int (fun _ _ => rfl)) (pe_callB call_len_seq (by rfl) bl.len boot_len (pa_cons (pv 5) pa_nil))) (fun _ _ => rfl)))
      (pss_cons (ps_if (PW.pt (pw_and (pt_cmpR op_gt (pe_ix ix_list (pv 4) pe_int (fun _ _ => rfl)) pe_int (nomark _)) (pw_and1 (pt_cmpR op_gt (pv 10) pe_int (nomark _)))))
        (pss_one (ps_set (i := 7) scLoads.nd rfl (.inl rfl) (pe_callB (cr_sortedP hr.units) (by rfl) bl.sorted boot_sorted (pa_cons (pe_op op_cat
          (pe_lc (own := [("_law_pair", 12)]) (g := gName 12) (tt := tTest (tOp rNe (tOp (rIxT K) (tVar 12) (tC (.int 0))) (tVar 9))) rfl scLoads.nd (pi_list (pv 7)) (blkOk_by (N := scopeL) (sc := defScope sLoads) (by decide +kernel))
            (fun _ _ _ _ _ => pg_name (i := 12) scLoads.nd rfl (Or.inl rfl)) (fun _ _ _ _ _ => pts_one (pt_cmpR op_ne (pe_ix (ix_tupK (K := K) rfl) (pv 12) pe_int (fun _ _ => rfl)) (pv 9) (nomark _))) (fun _ _ _ _ _ => pv 12))
          (pe_lst (pa_cons (pe_tup (pa_cons (pv 9) (pa_cons (pe_op op_add (pv 10) (pe_dget2 hu (pe_callTy (cr_dictL rfl) (by rfl) bl.dict PyProof.Rows.boot_dict (pa_cons (pv 7) pa_nil)) (pv 9) pe_int ⟨rfl, rfl, rfl, rfl⟩)) pa_nil))) pa_nil))) pa_nil)))) pss_nil)
      (pss_cons (ps_if (PW.pt (pw_and (pt_cmpR op_gt (pe_ix ix_list (pv 4) pe_int (fun _ _ => rfl)) pe_int (nomark _)) (pw_and1 (pt_cmpR op_lt (pv 10) pe_int (nomark _)))))
        (pss_one (ps_set (i := 6) scLoads.nd rfl (.inl rfl) (pe_callB (cr_sortedP hr.units) (by rfl) bl.sorted boot_sorted (pa_cons (pe_op op_cat
          (pe_lc (own := [("_law_pair", 12)]) (g := gName 12) (tt := tTest (tOp rNe (tOp (rIxT K) (tVar 12) (tC (.int 0))) (tVar 9))) rfl scLoads.nd (pi_list (pv 6)) (blkOk_by (N := scopeL) (sc := defScope sLoads) (by decide +kernel))
            (fun _ _ _ _ _ => pg_name (i := 12) scLoads.nd rfl (Or.inl rfl)) (fun _ _ _ _ _ => pts_one (pt_cmpR op_ne (pe_ix (ix_tupK (K := K) rfl) (pv 12) pe_int (fun _ _ => rfl)) (pv 9) (nomark _))) (fun _ _ _ _ _ => pv 12))
          (pe_lst (pa_cons (pe_tup (pa_cons (pv 9) (pa_cons (pe_op op_sub (pe_dget2 hu (pe_callTy (cr_dictL rfl) (by rfl) bl.dict PyProof.Rows.boot_dict (pa_cons (pv 6) pa_nil)) (pv 9) pe_int ⟨rfl, rfl, rfl, rfl⟩) (pv 10)) pa_nil))) pa_nil))) pa_nil)))) pss_nil)
      (pss_one (ps_ret (pe_tup (pa_cons (pv 6) (pa_cons (pv 7) pa_nil)))))))))))))), ?_⟩
    have sz : ∀ z : Int, (lSizes z).length = 25 := fun z => by simp [lSizes]
    -- digits
    refine ⟨_, rfl, _, rfl, le2, fun a1 n1 => ⟨a1, 12, _, rfl, rfl, upd_same, by decide, by decide, by decide, fun a2 n2 => ⟨(by show 1 ≤ sizeLine; decide), fun a3 n3 => ⟨a2, a3, _, _, rfl, rfl, (same_new n3) _ _ upd_same, upd_same, by decide, fun a4 n4 => ?_⟩⟩⟩⟩
    have sA : Same H (upd (upd (upd (upd H a1 (.lst [V.int 5, .int 30])) a2 (.lst (List.replicate (Int.toNat 12) [V.int 5, .int 30]).flatten)) a3 (.lst [V.int 12])) a4 (.lst ((List.replicate (Int.toNat 12) [V.int 5, .int 30]).flatten ++ [V.int 12]))) :=
      (((same_new n1).trans (same_new n2)).trans (same_new n3)).trans (same_new n4)
    refine ⟨l, a4, ns, lSizes 12, k, rfl, sql_same hs sA, upd_same.trans (by rfl), hk0, by omega, by decide, by decide, fun H1 dg ds s1 ndg hdg dok => ?_⟩
    have sB := sA.trans s1
    clear sA s1 n1 n2 n3 n4 ndg
    -- more
    refine ⟨_, rfl, _, rfl, _, _, rfl, rfl, le2, fun a1 n1 => ⟨a1, 12, _, rfl, rfl, upd_same, by decide, by decide, by decide, fun a2 n2 => ⟨(by show 1 ≤ sizeLine; decide), fun a3 n3 => ⟨a2, a3, _, _, rfl, rfl, (same_new n3) _ _ upd_same, upd_same, by decide, fun a4 n4 => ?_⟩⟩⟩⟩
    have sA : Same H1 (upd (upd (upd (upd H1 a1 (.lst [V.int 5, .int 30])) a2 (.lst (List.replicate (Int.toNat 12) [V.int 5, .int 30]).flatten)) a3 (.lst [V.int 3])) a4 (.lst ((List.replicate (Int.toNat 12) [V.int 5, .int 30]).flatten ++ [V.int 3]))) :=
      (((same_new n1).trans (same_new n2)).trans (same_new n3)).trans (same_new n4)
    refine ⟨l, a4, ns, lSizes 3, k + 1, rfl, sql_same hs (sB.trans sA), upd_same.trans (by rfl), by omega, by omega, by decide, by decide, fun H2 mr ms s2 nmr hmr mok => ?_⟩
    have hdg2 := s2 _ _ (sA _ _ hdg)
    have sC := sB.trans (sA.trans s2)
    clear sB sA s2 n1 n2 n3 n4 nmr hdg
    -- names
    refine ⟨_, rfl, t, N, E, rfl, hT.stay (same_tstay sC), n12, fun H3 nl s3 nnl hnl => ?_⟩
    have hdg3 := s3 _ _ hdg2
    have hmr3 := s3 _ _ hmr
    have sD := sC.trans s3
    clear sC s3 hdg2 hmr
    refine ⟨Nat.zero_le _, fun fs nfs => ⟨Nat.zero_le _, fun sd nsd => ?_⟩⟩
    have nfs0 : H fs = none := sD.free nfs
    have nsd0 : H sd = none := (sD.trans (same_new nfs)).free nsd
    have nsf : fs ≠ sd := fun e => by rw [← e, upd_same] at nsd; cases nsd
    have nsd3 : H3 sd = none := by rw [upd_ne nsf.symm] at nsd; exact nsd
    have ne : LoNe H dg mr nl fs sd := ⟨nfs0, nsd0, (ne_new hdg3 nfs).symm, (ne_new hmr3 nfs).symm, (ne_new hnl nfs).symm, (ne_new hdg3 nsd3).symm, (ne_new hmr3 nsd3).symm, (ne_new hnl nsd3).symm, nsf⟩
    have S0 : LoSt H dg mr nl fs sd ds ms N 0 0 [] [] (upd (upd H3 fs (.lst [])) sd (.lst [])) := by
      refine ⟨same_own (same_own sD nfs0) nsd0, ?_, ?_, ?_, ⟨[], ?_, .nil⟩, ⟨[], upd_same, .nil⟩, List.nil_sublist _, List.nil_sublist _, fun q hq => (nomatch hq), fun q hq => (nomatch hq)⟩
      · rw [upd_ne ne.s1.symm, upd_ne ne.f1.symm]; exact hdg3
      · rw [upd_ne ne.s2.symm, upd_ne ne.f2.symm]; exact hmr3
      · rw [upd_ne ne.s3.symm, upd_ne ne.f3.symm]; exact hnl
      · rw [upd_ne nsf, upd_same]
    have eN : (names N).length = N.length := List.length_map ..
    have dl : ds.length = 25 := dok.len.trans (sz 12)
    have ml : ms.length = 25 := mok.len.trans (sz 3)
    have getd : ∀ j, j < 25 → ∃ d, ds[j]? = some d := fun j hj => ⟨_, List.getElem?_eq_getElem (by omega)⟩
    have getm : ∀ j, j < 25 → ∃ d, ms[j]? = some d := fun j hj => ⟨_, List.getElem?_eq_getElem (by omega)⟩
    have gm : ∀ {L : List Int} {j : Nat} {d : Int}, L[j]? = some d → (L.map V.int)[j]? = some (.int d) := fun {L j d} h => by rw [List.getElem?_map, h]; rfl
    have at30 : ∀ z j, j < 12 → (lSizes z)[2 * j + 1]? = some 30 := fun z j hj => by
      have : ∀ j < 12, ((List.replicate 12 [(5 : Int), 30]).flatten)[2 * j + 1]? = some 30 := by decide
      unfold lSizes
      rw [List.getElem?_append_left (by simp; omega)]
      exact this j hj
    generalize upd (upd H3 fs (.lst [])) sd (.lst []) = H4 at *
    refine ⟨_, rfl, nl, _, rfl, .inl (SqL.of S0.hnl), _, rfl, by omega, by rw [List.length_map]; omega, ?_⟩
    rw [List.length_map, Int.toNat_natCast]
    refine for_range (lo := 0) (n := (names N).length) (loInv l dg mr nl fs sd k t ds ms N H) ⟨none, [], [], rfl, S0⟩ (fun i σ' H' hi p' => ?_) fun σ' H' p' => ?_
    · obtain ⟨x8, F, S, rfl, S1⟩ := p'
      obtain ⟨x, hx⟩ : ∃ x, (names N)[i]? = some x := ⟨_, List.getElem?_eq_getElem hi⟩
      have hxv : ((names N).map V.str)[i]? = some (.str x) := by rw [List.getElem?_map, hx]; rfl
      have i12 : i < 12 := by omega
      obtain ⟨d1, hd1⟩ := getd (2 * i) (by omega)
      obtain ⟨d2, hd2⟩ := getd (2 * i + 1) (by omega)
      obtain ⟨m1, hm1⟩ := getm (2 * i) (by omega)
      obtain ⟨m2, hm2⟩ := getm (2 * i + 1) (by omega)
      have bd2 := dok.bd _ d2 30 hd2 (at30 12 i i12)
      have bm2 := mok.bd _ m2 30 hm2 (at30 3 i i12)
      have lF := S1.sf.length_le
      have lS := S1.ss.length_le
      rw [List.length_map, List.length_take] at lF lS
      refine ⟨_, rfl, _, rfl, _, _, rfl, rfl, .inl ⟨by omega, by omega⟩, dg, _, _, .int d1, rfl, rfl, SqL.of S1.hdg, at_of (j := 2 * i) (by omega) (gm hd1), _, _, rfl, rfl, _, rfl, ?_⟩
      refine ite2 (fun h => ?p1) (fun h => ?p2)
      case' p1 =>
        obtain ⟨xs, hl, hp⟩ := S1.hf
        have xl := Paired.length hp
        refine ⟨_, rfl, .inl ⟨rfl, _, SqL.of hl⟩, _, rfl, _, rfl, nl, _, _, .str x, rfl, rfl, SqL.of S1.hnl, at_of (j := i) (by omega) hxv, _, rfl, _, rfl, _, _, rfl, rfl, .inl ⟨by omega, by omega⟩, _, _, rfl, rfl, dg, _, _, .int d2, rfl, rfl, SqL.of S1.hdg, at_of (j := 2 * i + 1) (by omega) (gm hd2), _, _, rfl, rfl, le2,
          fun tp ntp => ⟨fs, _, _, rfl, rfl, (upd_ne (ne_new hl ntp)).trans hl, small (by omega), ?_⟩⟩
        obtain ⟨F2, lF2, S2⟩ : ∃ F2, F2.length ≤ F.length + 1 ∧ LoSt H dg mr nl fs sd ds ms N (i + 1) i F2 S (upd (upd H' tp (.tup [.str x, .int (1 + d2)])) fs (.lst (xs ++ [.ref tp]))) := ⟨_, by simp, S1.addF ne hx (by omega) (by omega) hl hp ntp⟩
        generalize upd (upd H' tp (.tup [.str x, .int (1 + d2)])) fs (.lst (xs ++ [.ref tp])) = H2' at *
      case' p2 =>
        obtain ⟨F2, lF2, S2⟩ : ∃ F2, F2.length ≤ F.length + 1 ∧ LoSt H dg mr nl fs sd ds ms N (i + 1) i F2 S H' := ⟨_, by omega, S1.skipF⟩
        generalize H' = H2' at *
      all_goals
        refine ⟨_, rfl, _, rfl, _, _, rfl, rfl, .inl ⟨by omega, by omega⟩, mr, _, _, .int m1, rfl, rfl, SqL.of S2.hmr, at_of (j := 2 * i) (by omega) (gm hm1), _, _, rfl, rfl, _, rfl, ?_⟩
        refine ite2 (fun h => ?_) (fun h => ?_)
        · obtain ⟨xs, hl, hp⟩ := S2.hs
          have xl := Paired.length hp
          refine ⟨_, rfl, .inl ⟨rfl, _, SqL.of hl⟩, _, rfl, _, rfl, nl, _, _, .str x, rfl, rfl, SqL.of S2.hnl, at_of (j := i) (by omega) hxv, _, rfl, _, rfl, _, _, rfl, rfl, .inl ⟨by omega, by omega⟩, _, _, rfl, rfl, mr, _, _, .int m2, rfl, rfl, SqL.of S2.hmr, at_of (j := 2 * i + 1) (by omega) (gm hm2), _, _, rfl, rfl, le2,
            fun tp ntp => ⟨sd, _, _, rfl, rfl, (upd_ne (ne_new hl ntp)).trans hl, small (by omega), ?_⟩⟩
          exact ⟨_, _, _, rfl, S2.addS ne hx (by omega) (by omega) hl hp ntp⟩
        · exact ⟨_, _, _, rfl, S2.skipS⟩
    · obtain ⟨x8, F, S, rfl, S1⟩ := p'
      have ldF : LdG N 30 F := .of_sub (List.take_sublist _ _) nnd nsrt S1.sf S1.bf
      have ldS : LdG N 30 S := .of_sub (List.take_sublist _ _) nnd nsrt S1.ss S1.bs
      obtain ⟨xf, hf, pf⟩ := S1.hf
      obtain ⟨xs, hs2, ps⟩ := S1.hs
      have lf : LoadAt H' (.ref fs) F := ⟨fs, xf, rfl, hf, pf⟩
      have ls : LoadAt H' (.ref sd) S := ⟨sd, xs, rfl, hs2, ps⟩
      have lF := ldF.len
      have lS := ldS.len
      have sumF := ldF.sum_le (by decide) n12
      have sumS := ldS.sum_le (by decide) n12
      refine seq_asg (rd_gap rfl rfl lf ls (by omega) (by omega) (fun _ _ => rfl) (fun _ _ => rfl) fun H5 s5 => ?_)
      have hdg5 := s5 _ _ S1.hdg
      have hmr5 := s5 _ _ S1.hmr
      have hnl5 := s5 _ _ S1.hnl
      have lf5 := lf.same s5
      have ls5 := ls.same s5
      have sE := S1.same.trans s5
      obtain ⟨d24, hd24⟩ := getd 24 (by decide)
      obtain ⟨m24, hm24⟩ := getm 24 (by decide)
      have N0 : 0 < (names N).length := by rw [eN]; exact List.length_pos_iff.mpr hN
      have N0' : (0 : Int) < (((names N).map V.str).length : Nat) := by rw [List.length_map]; omega
      have mp := modp (i := d24) (n := ((names N).map V.str).length) (by rw [List.length_map]; exact N0)
      obtain ⟨nm, hnm⟩ : ∃ nm, (names N)[(d24 % ((((names N).map V.str).length : Nat) : Int)).toNat]? = some nm := ⟨_, List.getElem?_eq_getElem (by have := mp.1; rw [List.length_map] at this ⊢; exact this)⟩
      have nmN := List.mem_of_getElem? hnm
      refine ⟨_, rfl, _, rfl, dg, _, _, .int d24, rfl, rfl, SqL.of hdg5, at_of (j := 24) rfl (gm hd24), _, rfl, nl, _, rfl, .inl (SqL.of hnl5), _, _, rfl, rfl, N0', nl, _, _, .str nm, rfl, rfl, SqL.of hnl5, at_of (j := (d24 % ((((names N).map V.str).length : Nat) : Int)).toNat) mp.2 (by rw [List.getElem?_map, hnm]; rfl), ?_⟩
      generalize eg : sm F (fun q => q.2) - sm S (fun q => q.2) = gap at *
      -- second
      refine ⟨_, rfl, mr, _, _, .int m24, rfl, rfl, SqL.of hmr5, at_of (j := 24) rfl (gm hm24), _, _, rfl, rfl, _, rfl, ?_⟩
      refine ite2 (fun h1 => ?_) (fun h1 => ?q3)
      refine ⟨_, rfl, _, _, rfl, rfl, _, rfl, ?_⟩
      refine ite2 (fun h2 => ?q1) (fun h2 => ?q2)
      case' q1 =>
        have g0 : 0 < gap := of_decide_eq_true h2
        have vl := ldS.val_le (by decide) nm
        refine asg_in (rd_fix (n := gap + val S nm) rfl ls5 (by omega) (fun _ => rfl) (fun _ => rfl) (fun _ => rfl) rfl (fun H' Q' s' q' => ?pt) fun H6 sd6 S6 s6 ls6 pm6 srt6 => ?pn)
        case' pt =>
          refine ⟨_, rfl, _, rfl, _, S, rfl, ls5.same s', ldS.nd, fun dd ndd => ⟨dd, rfl, .inl ⟨_, .inl upd_same⟩, _, rfl, _, DGet.k (k := Sum.inr nm) upd_same, gap, val S nm, rfl, get_val ldS.nd nm, q' _ (same_new ndd)⟩⟩
        case' pn =>
          have ld6 := ldS.fix (by decide) nmN (by omega) (by omega) pm6 srt6
          have lf6 := lf5.same s6
          have hmr6 := s6 _ _ hmr5
          have sE6 := sE.trans s6
      case' q2 =>
        have ld6 : LdG N 999 S := ldS.le (by decide)
        have lf6 := lf5
        have ls6 := ls5
        have hmr6 := hmr5
        have sE6 := sE
      case' q3 =>
        have ld6 : LdG N 999 S := ldS.le (by decide)
        have lf6 := lf5
        have ls6 := ls5
        have hmr6 := hmr5
        have sE6 := sE
      all_goals
        refine ⟨_, rfl, mr, _, _, .int m24, rfl, rfl, SqL.of hmr6, at_of (j := 24) rfl (gm hm24), _, _, rfl, rfl, _, rfl, ?_⟩
        refine ite2 (fun h1 => ?_) (fun h1 => ?_)
        · refine ⟨_, rfl, _, _, rfl, rfl, _, rfl, ?_⟩
          refine ite2 (fun h2 => ?_) (fun h2 => ?_)
          · have g0 : gap < 0 := of_decide_eq_true h2
            have vl := ldF.val_le (by decide) nm
            refine asg_in (rd_fix (n := val F nm - gap) rfl lf6 (by omega) (fun _ => rfl) (fun _ => rfl) (fun _ => rfl) rfl (fun H' Q' s' q' => ?_) fun H7 fs7 F7 s7 lf7 pm7 srt7 => ?_)
            · refine ⟨_, rfl, _, F, rfl, lf6.same s', ldF.nd, fun dd ndd => ⟨dd, rfl, .inl ⟨_, .inl upd_same⟩, _, rfl, _, DGet.k (k := Sum.inr nm) upd_same, _, rfl, val F nm, gap, get_val ldF.nd nm, rfl, q' _ (same_new ndd)⟩⟩
            · have ld7 := ldF.fix (by decide) nmN (by omega) (by omega) pm7 srt7
              exact ⟨_, rfl, _, rfl, le2, fun tp ntp => q _ tp _ _ _ _ ((sE6.trans s7).trans (same_new ntp)) upd_same (lf7.same (same_new ntp)) ((ls6.same s7).same (same_new ntp)) ld7 ld6⟩
          · exact ⟨_, rfl, _, rfl, le2, fun tp ntp => q _ tp _ _ _ _ (sE6.trans (same_new ntp)) upd_same (lf6.same (same_new ntp)) (ls6.same (same_new ntp)) (ldF.le (by decide)) ld6⟩
        · exact ⟨_, rfl, _, rfl, le2, fun tp ntp => q _ tp _ _ _ _ (sE6.trans (same_new ntp)) upd_same (lf6.same (same_new ntp)) (ls6.same (same_new ntp)) (ldF.le (by decide)) ld6⟩
end
end K59

set_option Elab.async false
set_option linter.all false
set_option maxRecDepth 100000
set_option maxHeartbeats 4000000
namespace K59
open PySem PySem.Spec PyProof.Rows L2 GxR
/-! ### a dict that grows -/
def addK (ks : List Str) (x : Str) : List Str := if x ∈ ks then ks else ks ++ [x]
theorem put_any {ks : List Str} {h : Str → Int} {x : Str} {v : Int} : putK (dI ks h) (Sum.inr x) (.int v) = dI (addK ks x) (put h x v) := by
  unfold addK
  by_cases c : x ∈ ks
  · rw [if_pos c, dI_put c]
  · rw [if_neg c, dI_new c]
theorem addK_nd {ks : List Str} {x : Str} (nd : ks.Nodup) : (addK ks x).Nodup := by
  unfold addK
  split
  · exact nd
  · next c => exact List.nodup_append.mpr ⟨nd, by simp, fun a ha b hb e => c (by rw [List.mem_singleton.mp hb] at e; exact e ▸ ha)⟩
theorem addK_sub {ks l : List Str} {x : Str} (h : ∀ k ∈ ks, k ∈ l) (hx : x ∈ l) : ∀ k ∈ addK ks x, k ∈ l := fun k hk => by
  unfold addK at hk
  split at hk
  · exact h k hk
  · rcases List.mem_append.mp hk with e | e
    · exact h k e
    · rw [List.mem_singleton.mp e]; exact hx
theorem addK_mem {ks : List Str} {x y : Str} : y ∈ addK ks x ↔ y ∈ ks ∨ y = x := by
  unfold addK
  split
  · next c => exact ⟨.inl, fun h => by rcases h with h | h; exact h; rw [h]; exact c⟩
  · simp
theorem get_any {ks : List Str} {h : Str → Int} (z : ∀ x, x ∉ ks → h x = 0) (x : Str) : (valV (dI ks h) (Sum.inr x)).getD (V.int 0) = .int (h x) := by
  by_cases c : x ∈ ks
  · rw [dV_get c]; rfl
  · rw [dV_no c, z x c]; rfl
/-- what the moves leave at v -/
def held (F : List (Str × Int)) (M : List (Str × Str × Int)) (v : Str) : Int := val F v - sm M fun p => p.2.2 * ((if p.1 = v then 1 else 0) - (if p.2.1 = v then 1 else 0))
theorem held_more {F : List (Str × Int)} {M : List (Str × Str × Int)} {x y : Str} {n : Int} (v : Str) :
    put (put (held F M) x (held F M x - n)) y (put (held F M) x (held F M x - n) y + n) v = held F (M ++ [(x, y, n)]) v := by
  have e : held F (M ++ [(x, y, n)]) v = held F M v - n * ((if x = v then 1 else 0) - (if y = v then 1 else 0)) := by
    unfold held
    rw [sm_append, sm_cons, sm_nil]
    show _ - (_ + (n * ((if x = v then 1 else 0) - (if y = v then 1 else 0)) + 0)) = _
    omega
  rw [e, show (if x = v then (1 : Int) else 0) = if v = x then 1 else 0 by simp only [eq_comm], show (if y = v then (1 : Int) else 0) = if v = y then 1 else 0 by simp only [eq_comm]]
  unfold put
  by_cases e1 : v = y
  · subst e1
    rw [if_pos rfl, if_pos rfl]
    by_cases e2 : v = x
    · subst e2; rw [if_pos rfl, if_pos rfl]; omega
    · rw [if_neg e2, if_neg e2]; omega
  · rw [if_neg e1, if_neg e1]
    by_cases e2 : v = x
    · subst e2; rw [if_pos rfl, if_pos rfl]; omega
    · rw [if_neg e2, if_neg e2]; omega
structure HeSt (H0 : Hp) (d : Addr) (N F : List (Str × Int)) (M : List (Str × Str × Int)) (ks : List Str) (H' : Hp) : Prop where
  same : Same H0 H'
  hd : H' d = some (.dK (dI ks (held F M)))
  nd : ks.Nodup
  sub : ∀ k ∈ ks, k ∈ names N
  zero : ∀ x, x ∉ ks → held F M x = 0
def moInv (f m : V) (d : Addr) (N F : List (Str × Int)) (M : List (Str × Str × Int)) (H0 : Hp) (i : Nat) (σ' : L2.St) (H' : Hp) : Prop :=
  ∃ (x3 x4 x5 : Option V) (ks : List Str), σ' = [some f, some m, some (.ref d), x3, x4, x5, none] ∧ HeSt H0 d N F (M.take i) ks H'
section
variable {P : Program} {w : World} {K : PySem.W.Frag} {mg : Str → Option Value} {base : Heap}
def spMoved : Sp := fun vs H Q _ => ∃ (f m : V) (N F : List (Str × Int)) (M : List (Str × Str × Int)), vs = [f, m] ∧ LoadAt H f F ∧ MovesAt H m M ∧ N.length ≤ 12 ∧ (F.map (·.1)).Nodup ∧ (∀ q ∈ F, q.1 ∈ names N) ∧ (∀ p ∈ M, p.1 ∈ names N ∧ p.2.1 ∈ names N) ∧
  ∀ H' p R, Same H H' → LoadAt H' (.ref p) R → R.Pairwise (fun a b => sle a.1 b.1) → (R.map (·.1)).Nodup → (∀ x v, (x, v) ∈ R → v = held F M x ∧ v ≠ 0) → (∀ x, held F M x ≠ 0 → (x, held F M x) ∈ R) → Q (.ref p) H'
theorem ok_moved {f : Addr} {fd : FuncData} (F : Fun K "_law_moved" "_law_moved" sMoved f fd) (bl : Blt mg) : FnOk P w K mg base CX0 1 f fd ["_law_load", "_law_moves"] spMoved := by
  refine F.ok scMoved (fun vs H Q E h => ?_) (fun cdv A outer s H vs Q E hr h => ?_)
  · obtain ⟨f, m, N, F, M, rfl, _⟩ := h
    rfl
  · obtain ⟨fv, mv, N, F, M, rfl, hf, hm, n12, nd, sub, subM, q⟩ := h
    have hu := hu_of hr
    refine ⟨_, pss_cons (ps_set (i := 2) scMoved.nd rfl (by first | exact .inl rfl | exact .inr rfl) (pe_callTy (cr_dictL rfl) (by rfl) bl.dict PyProof.Rows.boot_dict (pa_cons (pv 0) pa_nil)))
      (pss_cons (ps_for PassesOwn.never rfl (pi_list (pv 1)) (pg_tup rfl (pgs_cons (pg_name (i := 3) scMoved.nd rfl (.inl rfl)) (pgs_cons (pg_name (i := 4) scMoved.nd rfl (.inl rfl)) (pgs_cons (pg_name (i := 5) scMoved.nd rfl (.inl rfl)) pgs_nil))))
        (pss_cons (ps_dput hu (pv 2) (pv 3) (pe_op op_sub (pe_dget2 hu (pv 2) (pv 3) pe_int ⟨rfl, rfl, rfl, rfl⟩) (pv 5)) rfl)
        (pss_one (ps_dput hu (pv 2) (pv 4) (pe_op op_add (pe_dget2 hu (pv 2) (pv 4) pe_int ⟨rfl, rfl, rfl, rfl⟩) (pv 5)) rfl))))
      (pss_one (ps_ret (pe_callB (cr_sortedP hr.units) (by rfl) bl.sorted boot_sorted (pa_cons (pe_lock
        (pe_lc (own := [("_law_name", 6)]) (g := gName 6) (tt := tTest (tOp rNe (tDGet (tVar 2) (tVar 6)) (tC (.int 0)))) rfl scMoved.nd (pi_keys (pv 2)) (blkOk_by (N := ["_law_load", "_law_moves", "_law_held", "_law_one", "_law_other_here", "_law_many", "_law_name"]) (sc := defScope sMoved) (by decide +kernel))
          (fun _ _ _ _ _ => pg_name (i := 6) scMoved.nd rfl (Or.inl rfl)) (fun _ _ _ _ _ => pts_one (pt_cmpR op_ne (pe_dget hu (pv 2) (pv 6) (fun _ _ => rfl)) pe_int (nomark _)))
          (fun _ _ _ _ _ => pe_tup (pa_cons (pv 6) (pa_cons (pe_dget hu (pv 2) (pv 6) (fun _ _ => rfl)) pa_nil))))) pa_nil))))), ?_⟩
    refine ⟨_, rfl, _, F, rfl, hf, nd, fun d nd0 => ?_⟩
    have S0 : HeSt H d N F [] (F.map (·.1)) (upd H d (.dK (dI (F.map (·.1)) (val F)))) := by
      refine ⟨same_new nd0, ?_, nd, fun k hk => ?_, fun x hx => ?_⟩
      · rw [upd_same]; exact congrArg (fun z => some (HO.dK z)) (dV_congr fun x _ => by show V.int (val F x) = V.int (held F [] x); unfold held; rw [sm_nil, Int.sub_zero])
      · obtain ⟨q, hq, rfl⟩ := List.mem_map.mp hk; exact sub q hq
      · unfold held; rw [sm_nil, Int.sub_zero]; exact val_out fun q hq e => hx (List.mem_map.mpr ⟨q, hq, e⟩)
    have eN : (names N).length = N.length := List.length_map ..
    have kl : ∀ {ks : List Str}, ks.Nodup → (∀ k ∈ ks, k ∈ names N) → ks.length ≤ 12 := fun {ks} h1 h2 => by have := List.Nodup.length_le_of_subset h1 h2; omega
    generalize upd H d (.dK (dI (F.map (·.1)) (val F))) = H1 at *
    obtain ⟨ml, xs, rfl, hml, pml⟩ := id hm
    refine ⟨_, rfl, ml, rfl, ⟨xs, SqL.of (S0.same _ _ hml)⟩, ?_⟩
    refine for_list (K := K) (a := ml) (xs := xs) (moInv fv (.ref ml) d N F M H) ⟨none, none, none, _, rfl, S0⟩ (fun i σ' H' _ p' => by obtain ⟨_, _, _, _, _, S⟩ := p'; exact SqL.of (S.same _ _ hml)) (fun i x σ' H' hi p' => ?_) fun σ' H' p' => ?_
    · obtain ⟨x3, x4, x5, ks, rfl, S1⟩ := p'
      obtain ⟨⟨x, y, n⟩, hM', b, rfl, hb⟩ := paired_at pml hi
      obtain ⟨hxN, hyN⟩ := subM _ (List.mem_of_getElem? hM')
      have tk : M.take (i + 1) = M.take i ++ [(x, y, n)] := by rw [List.take_add_one, hM']; rfl
      have k12 := kl S1.nd S1.sub
      have k12' := kl (addK_nd (x := x) S1.nd) (addK_sub S1.sub hxN)
      refine ⟨b, _, rfl, SqT.of (S1.same _ _ hb), rfl, _, _, rfl, _, _, rfl, _, _, rfl, rfl, ?_⟩
      refine ⟨_, rfl, d, rfl, .inl ⟨_, .inl S1.hd⟩, _, rfl, _, DGet.k (k := Sum.inr x) S1.hd, _, rfl, held F (M.take i) x, n, get_any S1.zero x, rfl, _, rfl, _, rfl, d, _, rfl, DPut.k (k := Sum.inr x) S1.hd (by rw [dV_length]; exact small (by omega)), ?_⟩
      rw [put_any]
      have z2 : ∀ v, v ∉ addK ks x → put (held F (M.take i)) x (held F (M.take i) x - n) v = 0 := fun v hv => by
        rw [put_ne _ _ fun e => hv (addK_mem.mpr (.inr e))]
        exact S1.zero v fun e => hv (addK_mem.mpr (.inl e))
      have hd2 : upd H' d (.dK (dI (addK ks x) (put (held F (M.take i)) x (held F (M.take i) x - n)))) d = some (.dK (dI (addK ks x) (put (held F (M.take i)) x (held F (M.take i) x - n)))) := upd_same
      have s2 : Same H (upd H' d (.dK (dI (addK ks x) (put (held F (M.take i)) x (held F (M.take i) x - n))))) := same_own S1.same nd0
      generalize upd H' d (.dK (dI (addK ks x) (put (held F (M.take i)) x (held F (M.take i) x - n)))) = H2 at *
      refine ⟨_, rfl, d, rfl, .inl ⟨_, .inl hd2⟩, _, rfl, _, DGet.k (k := Sum.inr y) hd2, _, rfl, put (held F (M.take i)) x (held F (M.take i) x - n) y, n, get_any z2 y, rfl, _, rfl, _, rfl, d, _, rfl, DPut.k (k := Sum.inr y) hd2 (by rw [dV_length]; exact small (by omega)), ?_⟩
      rw [put_any]
      have em : ∀ ks', dI ks' (put (put (held F (M.take i)) x (held F (M.take i) x - n)) y (put (held F (M.take i)) x (held F (M.take i) x - n) y + n)) = dI ks' (held F (M.take (i + 1))) := fun ks' => dV_congr fun v _ => by show V.int _ = V.int _; rw [held_more, tk]
      rw [em]
      refine ⟨_, _, _, _, rfl, same_own s2 nd0, upd_same, addK_nd (addK_nd S1.nd), addK_sub (addK_sub S1.sub hxN) hyN, fun v hv => ?_⟩
      rw [tk, ← held_more, put_ne _ _ fun e => hv (addK_mem.mpr (.inr e))]
      exact z2 v fun e => hv (addK_mem.mpr (.inl e))
    · obtain ⟨x3, x4, x5, ks, rfl, S1⟩ := p'
      rw [Paired.length pml, List.take_length] at S1
      have k12 := kl S1.nd S1.sub
      have hd := S1.hd
      refine ⟨d, _, hd, trivial, fun od => ?_⟩
      refine ⟨_, rfl, d, od, rfl, .inl ⟨_, upd_same, fun D nD => ?_⟩⟩
      obtain ⟨nD1, neD⟩ := lock_free hd nD
      have hn : (dI ks (held F M)).length = ks.length := dV_length ..
      refine lc_it walk_keys (fun i H2 => Same (upd H' d (.frz od (.dK (dI ks (held F M))))) H2 ∧ ∃ ys, H2 D = some (.lst ys) ∧ Paired (PairAt H2) ys (((ks.take i).filter fun z => !decide (held F M z = 0)).map fun z => (z, held F M z))) ⟨same_new nD, [], upd_same, .nil⟩
        (fun i H2 _ p' => p'.1 _ _ upd_same) (fun i x H2 H3 hi p' hy => ?_) fun H2 p' => ?_
      · obtain ⟨s6, ys, hl, hp⟩ := p'
        rw [hn] at hi
        obtain ⟨rfl, kk, vv, hk1, rfl⟩ := hy
        obtain ⟨z, hz⟩ : ∃ e, ks[i]? = some e := ⟨_, List.getElem?_eq_getElem hi⟩
        have ek : kk = Sum.inr z := by
          have := congrArg (fun o => o.map (·.1)) hk1
          rw [← List.getElem?_map, dV_keys, List.getElem?_map, hz] at this
          exact (Option.some.inj this).symm
        subst ek
        have hzk := List.mem_of_getElem? hz
        have tk : (ks.take (i + 1)).filter (fun z => !decide (held F M z = 0)) = (ks.take i).filter (fun z => !decide (held F M z = 0)) ++ (if held F M z = 0 then [] else [z]) := by
          rw [List.take_add_one, hz, List.filter_append]
          congr 1
          by_cases c : held F M z = 0 <;> simp [c]
        have pl : ((ks.take i).filter fun z => !decide (held F M z = 0)).length ≤ i := by
          refine Nat.le_trans (List.length_filter_le _ _) ?_
          rw [List.length_take]; omega
        have yl := Paired.length hp
        rw [List.length_map] at yl
        have gz : ∀ {H4 : Hp}, Same (upd H' d (.frz od (.dK (dI ks (held F M))))) H4 → DGet H4 d (.str z) (some (.int (held F M z))) := fun {H4} s => .inl ⟨_, Sum.inr z, .inr ⟨od, s _ _ upd_same⟩, rfl, (dV_get (g := fun k => V.int (held F M k)) hzk).symm⟩
        refine ⟨rfl, _, rfl, _, rfl, d, .int (held F M z), rfl, gz s6, rfl, _, rfl, ?_⟩
        refine ite2 (fun h => ?_) (fun h => ?_)
        · have hne : ¬ held F M z = 0 := fun e => by rw [e] at h; simp at h
          refine ⟨_, rfl, _, rfl, _, rfl, d, .int (held F M z), rfl, gz s6, le2, fun tp ntp => ⟨ys, (same_new ntp) _ _ hl, small (by omega), same_own (s6.trans (same_new ntp)) nD, _, upd_same, ?_⟩⟩
          rw [tk, if_neg hne, List.map_append]
          exact app_pair hl ntp hp
        · have he : held F M z = 0 := Classical.byContradiction fun e => h (by simp [e])
          refine ⟨s6, ys, hl, ?_⟩
          rw [tk, if_pos he, List.append_nil]; exact hp
      · obtain ⟨s6, ys, hl, hp⟩ := p'
        rw [hn, List.take_length] at hp
        refine ⟨s6 _ _ upd_same, ?_⟩
        have s6' := same_unlock hd s6
        have hp' : Paired (PairAt (upd H2 d (.dK (dI ks (held F M))))) ys ((ks.filter fun z => !decide (held F M z = 0)).map fun z => (z, held F M z)) := hp.mono fun v q => by
          rintro ⟨a', e', h'⟩
          exact ⟨a', e', by rw [upd_ne fun e => by rw [e, s6 _ _ upd_same] at h'; cases h']; exact h'⟩
        have hl' : upd H2 d (.dK (dI ks (held F M))) D = some (.lst ys) := by rw [upd_ne neD]; exact hl
        generalize upd H2 d (.dK (dI ks (held F M))) = H5 at *
        refine ⟨D, ys, _, rfl, SqL.of hl', hp', fun xs' R p hR pm srt np => ?_⟩
        have ek : (((ks.filter fun z => !decide (held F M z = 0)).map fun z => (z, held F M z)).map (·.1)) = ks.filter fun z => !decide (held F M z = 0) := by rw [List.map_map]; exact List.map_id _
        refine q _ p R ((S1.same.trans s6').trans (same_new np)) ⟨p, xs', rfl, upd_same, pairs_stay hR (tstay_new np)⟩ srt ?_ (fun x v hx => ?_) (fun x hx => ?_)
        · rw [(pm.map (·.1)).nodup_iff, ek]; exact S1.nd.filter _
        · obtain ⟨z, hz, e⟩ := List.mem_map.mp (pm.mem_iff.mp hx)
          have e1 : z = x := congrArg Prod.fst e
          have e2 : held F M z = v := congrArg Prod.snd e
          rw [e1] at e2 hz
          refine ⟨e2.symm, fun z0 => ?_⟩
          have := (List.mem_filter.mp hz).2
          rw [e2, z0] at this
          simp at this
        · refine pm.mem_iff.mpr (List.mem_map.mpr ⟨x, List.mem_filter.mpr ⟨Classical.byContradiction fun h => hx (S1.zero x h), by simp [hx]⟩, rfl⟩)
end
end K59

set_option Elab.async false
set_option linter.all false
set_option maxRecDepth 100000
set_option maxHeartbeats 4000000
namespace K59
open PySem PySem.Spec PyProof.Rows L2 GxR
/-! ### another way to move: what is to go and what is lacking -/
def nz (f : Str → Int) (l : List Str) : Int := sm l fun x => if 0 < f x then 1 else 0
theorem nz_nonneg (f : Str → Int) (l : List Str) : 0 ≤ nz f l := sm_nonneg fun x _ => by split <;> omega
theorem nz_len (f : Str → Int) (l : List Str) : nz f l ≤ l.length := by
  induction l with
  | nil => unfold nz; rw [sm_nil]; simp
  | cons x l ih => unfold nz at *; rw [sm_cons, List.length_cons]; split <;> omega
theorem nz_put {f : Str → Int} {l : List Str} {x : Str} {k : Int} (h : 0 ≤ k) : nz (put f x (f x - k)) l ≤ nz f l := sm_le fun y _ => by
  unfold put
  by_cases e : y = x
  · rw [if_pos e, e]; split <;> split <;> omega
  · rw [if_neg e]; omega
theorem nz_put_lt {f : Str → Int} {l : List Str} {x : Str} (hx : x ∈ l) (h : 0 < f x) : nz (put f x (f x - f x)) l < nz f l := by
  refine sm_lt (fun y _ => ?_) hx ?_
  · unfold put
    by_cases e : y = x
    · rw [if_pos e, e, if_pos h]; split <;> omega
    · rw [if_neg e]; omega
  · rw [put_same, if_pos h, if_neg (by omega)]; omega
theorem sm_put {f : Str → Int} {l : List Str} {x : Str} {k : Int} (nd : l.Nodup) (hx : x ∈ l) : sm l (put f x (f x - k)) = sm l f - k := by
  have : sm l (put f x (f x - k)) = sm l fun y => f y - if y = x then k else 0 := sm_congr fun y _ => by
    unfold put
    by_cases e : y = x
    · rw [if_pos e, if_pos e, e]
    · rw [if_neg e, if_neg e]; omega
  rw [this, sm_sub, sm_single nd hx fun _ => k]
structure OtSt (N F S : List (Str × Int)) (i : Nat) (a b : Str → Int) (M : List (Str × Str × Int)) : Prop where
  a0 : ∀ x, 0 ≤ a x
  b0 : ∀ x, 0 ≤ b x
  az : ∀ x, x ∉ F.map (·.1) → a x = 0
  bz : ∀ x, x ∉ S.map (·.1) → b x = 0
  ma : ∀ v, val F v - a v = sm M fun p => p.2.2 * if p.1 = v then 1 else 0
  mb : ∀ v, val S v - b v = sm M fun p => p.2.2 * if p.2.1 = v then 1 else 0
  eq : sm (F.map (·.1)) a = sm (S.map (·.1)) b
  cnt : nz a (F.map (·.1)) + nz b (S.map (·.1)) ≤ 24 - (i : Int)
  mem : ∀ p ∈ M, p.1 ∈ names N ∧ p.2.1 ∈ names N ∧ 0 ≤ p.2.2
  len : M.length ≤ i
theorem OtSt.start {N F S : List (Str × Int)} (hF : LdG N 999 F) (hS : LdG N 999 S) (n12 : N.length ≤ 12) (e : sm F (fun q => q.2) = sm S fun q => q.2) : OtSt N F S 0 (val F) (val S) [] := by
  have lf := hF.len
  have ls := hS.len
  have l1 := nz_len (val F) (F.map (·.1))
  have l2 := nz_len (val S) (S.map (·.1))
  rw [List.length_map] at l1 l2
  refine ⟨fun x => (hF.val_le (by decide) x).1, fun x => (hS.val_le (by decide) x).1, fun x hx => val_out fun q hq e => hx (List.mem_map.mpr ⟨q, hq, e⟩), fun x hx => val_out fun q hq e => hx (List.mem_map.mpr ⟨q, hq, e⟩), fun v => by rw [sm_nil]; omega, fun v => by rw [sm_nil]; omega, ?_, by omega, fun p hp => (nomatch hp), Nat.le_refl _⟩
  rw [sm_val1 hF.nd fun q hq => List.mem_map.mpr ⟨q, hq, rfl⟩, sm_val1 hS.nd fun q hq => List.mem_map.mpr ⟨q, hq, rfl⟩, e]
theorem OtSt.idle {N F S : List (Str × Int)} {i : Nat} {a b : Str → Int} {M : List (Str × Str × Int)} (h : OtSt N F S i a b M) (hi : i < 24) (z : ∀ x ∈ F.map (·.1), ¬ 0 < a x) : OtSt N F S (i + 1) a b M := by
  have e1 : sm (F.map (·.1)) a = 0 := sm_zero fun x hx => by have := z x hx; have := h.a0 x; omega
  have e2 := sm_zero_of (fun x _ => h.b0 x) (h.eq.symm.trans e1)
  have z1 : nz a (F.map (·.1)) = 0 := sm_zero fun x hx => if_neg (z x hx)
  have z2 : nz b (S.map (·.1)) = 0 := sm_zero fun x hx => if_neg (by rw [e2 x hx]; omega)
  exact ⟨h.a0, h.b0, h.az, h.bz, h.ma, h.mb, h.eq, by rw [z1, z2]; omega, h.mem, by have := h.len; omega⟩
theorem OtSt.turn {N F S : List (Str × Int)} {i : Nat} {a b : Str → Int} {M : List (Str × Str × Int)} (h : OtSt N F S i a b M) (hF : LdG N 999 F) (hS : LdG N 999 S) {s t : Str} {k : Int} (hs : s ∈ F.map (·.1)) (ht : t ∈ S.map (·.1)) (as : 0 < a s) (bt : 0 < b t)
    (hk : k = if b t < a s then b t else a s) : OtSt N F S (i + 1) (put a s (a s - k)) (put b t (b t - k)) (M ++ [(s, t, k)]) := by
  have k0 : 0 < k := by rw [hk]; split <;> omega
  have ka : k ≤ a s := by rw [hk]; split <;> omega
  have kb : k ≤ b t := by rw [hk]; split <;> omega
  have hsN : s ∈ names N := by obtain ⟨q, hq, rfl⟩ := List.mem_map.mp hs; exact hF.sub q hq
  have htN : t ∈ names N := by obtain ⟨q, hq, rfl⟩ := List.mem_map.mp ht; exact hS.sub q hq
  have pa := nz_put (f := a) (l := F.map (·.1)) (x := s) (k := k) (by omega)
  have pb := nz_put (f := b) (l := S.map (·.1)) (x := t) (k := k) (by omega)
  have cnt := h.cnt
  refine ⟨fun x => ?_, fun x => ?_, fun x hx => ?_, fun x hx => ?_, fun v => ?_, fun v => ?_, ?_, ?_, fun p hp => ?_, ?_⟩
  · unfold put; split
    · omega
    · exact h.a0 x
  · unfold put; split
    · omega
    · exact h.b0 x
  · rw [put_ne _ _ fun e => hx (by rw [e]; exact hs)]; exact h.az x hx
  · rw [put_ne _ _ fun e => hx (by rw [e]; exact ht)]; exact h.bz x hx
  · rw [sm_append, sm_cons, sm_nil, ← h.ma v]
    show val F v - put a s (a s - k) v = val F v - a v + (k * (if s = v then 1 else 0) + 0)
    unfold put
    by_cases e : v = s
    · rw [if_pos e, if_pos e.symm, e]; omega
    · rw [if_neg e, if_neg fun z => e z.symm]; omega
  · rw [sm_append, sm_cons, sm_nil, ← h.mb v]
    show val S v - put b t (b t - k) v = val S v - b v + (k * (if t = v then 1 else 0) + 0)
    unfold put
    by_cases e : v = t
    · rw [if_pos e, if_pos e.symm, e]; omega
    · rw [if_neg e, if_neg fun z => e z.symm]; omega
  · rw [sm_put hF.nd hs, sm_put hS.nd ht, h.eq]
  · by_cases c : b t < a s
    · rw [if_pos c] at hk
      have := nz_put_lt (f := b) ht bt
      rw [hk] at pa ⊢
      omega
    · rw [if_neg c] at hk
      have := nz_put_lt (f := a) hs as
      rw [hk] at pb ⊢
      omega
  · rcases List.mem_append.mp hp with e | e
    · exact h.mem p e
    · rw [List.mem_singleton.mp e]; exact ⟨hsN, htN, (show (0 : Int) ≤ k by omega)⟩
  · rw [List.length_append, List.length_singleton]; have := h.len; omega
theorem OtSt.done {N F S : List (Str × Int)} {a b : Str → Int} {M : List (Str × Str × Int)} (h : OtSt N F S 24 a b M) (v : Str) : mo F S v = sm M fun p => p.2.2 * ((if p.1 = v then 1 else 0) - (if p.2.1 = v then 1 else 0)) := by
  have c := h.cnt
  have n1 := nz_nonneg a (F.map (·.1))
  have n2 := nz_nonneg b (S.map (·.1))
  have e1 := sm_zero_of (l := F.map (·.1)) (f := fun x => if 0 < a x then (1 : Int) else 0) (fun x _ => by split <;> omega) (show nz a _ = 0 by omega)
  have e2 := sm_zero_of (l := S.map (·.1)) (f := fun x => if 0 < b x then (1 : Int) else 0) (fun x _ => by split <;> omega) (show nz b _ = 0 by omega)
  have z1 : a v = 0 := by
    by_cases hv : v ∈ F.map (·.1)
    · have := e1 v hv
      have := h.a0 v
      by_cases p : 0 < a v
      · rw [if_pos p] at *; omega
      · omega
    · exact h.az v hv
  have z2 : b v = 0 := by
    by_cases hv : v ∈ S.map (·.1)
    · have := e2 v hv
      have := h.b0 v
      by_cases p : 0 < b v
      · rw [if_pos p] at *; omega
      · omega
    · exact h.bz v hv
  have m1 := h.ma v
  have m2 := h.mb v
  rw [z1] at m1
  rw [z2] at m2
  have : sm M (fun p => p.2.2 * ((if p.1 = v then 1 else 0) - (if p.2.1 = v then 1 else 0))) = sm M (fun p => p.2.2 * if p.1 = v then 1 else 0) - sm M fun p => p.2.2 * if p.2.1 = v then 1 else 0 := by
    rw [← sm_sub]; exact sm_congr fun p _ => Int.mul_sub ..
  rw [this, ← m1, ← m2]
  unfold mo; omega
end K59

set_option Elab.async false
set_option linter.all false
set_option maxRecDepth 100000
set_option maxHeartbeats 4000000
namespace K59
open PySem PySem.Spec PyProof.Rows L2 GxR
/-- [name for name in sorted(d) if d[name] > 0] -/
theorem rd_more {K : PySem.W.Frag} {i a : Nat} {σ : L2.St} {H : Hp} {Q : VK} {d : Addr} {ks : List Str} {f : Str → Int} (hv : σ[i]? = some (some (.ref d))) (hd : H d = some (.dK (dI ks f))) (hk : ks.length ≤ 12)
    (hw : ∀ x, wipe ((wipe σ [a]).set a x) [a] = wipe σ [a]) (ha : ∀ x, ((wipe σ [a]).set a x)[a]? = some x) (hb : ∀ x, ((wipe σ [a]).set a x)[i]? = some (some (.ref d)))
    (q : ∀ H' D (ys : List Str), Same H H' → H D = none → H' D = some (.lst ((ys.filter fun z => decide (0 < f z)).map V.str)) → ys.Perm ks → Q (.ref D) H') :
    tLc (iList K (tCB (fun xs H Q => ∃ (a : Addr) (kvs : List (Key × V)) (ks : List Str), xs = [.ref a] ∧ Rd H a (.dK kvs) ∧ kvs.map (·.1) = ks.map Sum.inr ∧ ks.length < 64 ∧
      ∀ ys p, ys.Perm ks → sortedS ys = true → H p = none → Q (.ref p) (upd H p (.lst (ys.map V.str)))) (tCons (tVar i) tNil))) (gName a)
      (tTest (tOp (rI0 fun i j => .bl (decide (j < i))) (tDGet (tVar i) (tVar a)) (tC (.int 0)))) (tVar a) [a] σ H Q := by
  refine ⟨_, hv, d, _, ks, rfl, .inl hd, dV_keys _ _, by omega, fun ys p pm _ np => ⟨p, rfl, ⟨_, SqL.of upd_same⟩, fun D hD => ?_⟩⟩
  have s0 : Same H (upd H p (.lst (ys.map V.str))) := same_new np
  have hp : upd H p (.lst (ys.map V.str)) p = some (.lst (ys.map V.str)) := upd_same
  have hD0 : H D = none := s0.free hD
  generalize upd H p (.lst (ys.map V.str)) = H1 at *
  refine lc_list (K := K) (a := p) (xs := ys.map V.str) (fun i H' => Same H1 H' ∧ H' D = some (.lst (((ys.take i).filter fun z => decide (0 < f z)).map V.str))) ⟨same_new hD, by rw [upd_same]; rfl⟩ (fun i H' _ p' => SqL.of (p'.1 _ _ hp)) (fun i x H' hi p' => ?_) fun H' p' => ?_
  · obtain ⟨s1, hl⟩ := p'
    obtain ⟨z, hz, rfl⟩ : ∃ z, ys[i]? = some z ∧ V.str z = x := by
      rw [List.getElem?_map] at hi
      cases en : ys[i]? with
      | none => rw [en] at hi; cases hi
      | some z => rw [en] at hi; exact ⟨z, rfl, Option.some.inj hi⟩
    have hzk : z ∈ ks := pm.mem_iff.mp (List.mem_of_getElem? hz)
    have tk : (ys.take (i + 1)).filter (fun z => decide (0 < f z)) = (ys.take i).filter (fun z => decide (0 < f z)) ++ (if 0 < f z then [z] else []) := by
      rw [List.take_add_one, hz, List.filter_append]
      congr 1
      by_cases c : 0 < f z <;> simp [c]
    have pl : ((ys.take i).filter fun z => decide (0 < f z)).length ≤ ys.length := by
      refine Nat.le_trans (List.length_filter_le _ _) ?_
      rw [List.length_take]; omega
    rw [pm.length_eq] at pl
    refine ⟨hw _, _, hb _, _, ha _, d, .int (f z), rfl, (by have := DGet.k (k := Sum.inr z) (s1 _ _ (s0 _ _ hd)); rw [dV_get hzk] at this; exact this), _, _, rfl, rfl, _, rfl, ?_⟩
    refine ite2 (fun h => ?_) (fun h => ?_)
    · have h' : 0 < f z := of_decide_eq_true h
      refine ⟨_, ha _, _, hl, small (by rw [List.length_map]; omega), same_own s1 hD, ?_⟩
      rw [upd_same, tk, if_pos h', List.map_append]; rfl
    · have h' : ¬ 0 < f z := fun e => h (decide_eq_true e)
      refine ⟨s1, ?_⟩
      rw [tk, if_neg h', List.append_nil]; exact hl
  · obtain ⟨s1, hl⟩ := p'
    rw [List.length_map, List.take_length] at hl
    exact q H' D ys (s0.trans s1) hD0 hl pm
structure OhSt (H0 : Hp) (dg d1 d2 mv : Addr) (ds : List Int) (F S : List (Str × Int)) (a b : Str → Int) (M : List (Str × Str × Int)) (H' : Hp) : Prop where
  same : Same H0 H'
  hdg : H' dg = some (.lst (ds.map V.int))
  h1 : H' d1 = some (.dK (dI (F.map (·.1)) a))
  h2 : H' d2 = some (.dK (dI (S.map (·.1)) b))
  hm : ∃ xs, H' mv = some (.lst xs) ∧ Paired (TripAt H') xs M
theorem OhSt.mono {H0 : Hp} {dg d1 d2 mv : Addr} {ds : List Int} {F S : List (Str × Int)} {a b : Str → Int} {M : List (Str × Str × Int)} {H' H2 : Hp} (h : OhSt H0 dg d1 d2 mv ds F S a b M H') (s : Same H' H2) : OhSt H0 dg d1 d2 mv ds F S a b M H2 :=
  ⟨h.same.trans s, s _ _ h.hdg, s _ _ h.h1, s _ _ h.h2, let ⟨xs, e, p⟩ := h.hm; ⟨xs, s _ _ e, trips_stay p (same_tstay s)⟩⟩
def otInv (l : Addr) (k : Int) (f s : V) (dg d1 d2 mv : Addr) (ds : List Int) (N F S : List (Str × Int)) (H0 : Hp) (i : Nat) (σ' : L2.St) (H' : Hp) : Prop :=
  ∃ (x8 x9 x10 x11 x12 x13 : Option V) (a b : Str → Int) (M : List (Str × Str × Int)), σ' = [some (.ref l), some (.int k), some f, some s, some (.ref dg), some (.ref d1), some (.ref d2), some (.ref mv), x8, x9, x10, x11, x12, x13, none] ∧ OhSt H0 dg d1 d2 mv ds F S a b M H' ∧ OtSt N F S i a b M
abbrev scopeO : List Str := ["_law_script", "_law_k", "_law_first", "_law_second", "_law_digits", "_law_much", "_law_lack", "_law_moves", "_law_turn", "_law_one", "_law_two", "_law_start", "_law_end", "_law_many", "_law_name"]
section
variable {P : Program} {w : World} {K : PySem.W.Frag} {mg : Str → Option Value} {base : Heap}
def spOther (K : PySem.W.Frag) : Sp := fun vs H Q _ => ∃ (l : Addr) (ns : List Int) (k : Int) (f s : V) (N F S : List (Str × Int)), vs = [.ref l, .int k, f, s] ∧ SqL K H l (ns.map V.int) ∧ 0 ≤ k ∧ k ≤ 1000 ∧ LoadAt H f F ∧ LoadAt H s S ∧ N.length ≤ 12 ∧ LdG N 999 F ∧ LdG N 999 S ∧ sm F (fun q => q.2) = sm S (fun q => q.2) ∧
  ∀ H' p M, Same H H' → MovesAt H' (.ref p) M → (∀ x ∈ M, x.1 ∈ names N ∧ x.2.1 ∈ names N ∧ 0 ≤ x.2.2) → (∀ v, mo F S v = sm M fun p => p.2.2 * ((if p.1 = v then 1 else 0) - (if p.2.1 = v then 1 else 0))) → M.length ≤ 24 → Q (.ref p) H'
theorem ok_other {f fD : Addr} {fd fdD : FuncData} (F : Fun K "_law_other" "_law_other" sOther f fd) (bl : Blt mg) (GD : FnOk P w K mg base CX0 2 fD fdD ["_law_script", "_law_k", "_law_sizes"] (spDraw K)) (cD : Cal K mg "_law_draw" fD fdD ["_law_script", "_law_k", "_law_sizes"]) :
    FnOk P w K mg base CX0 3 f fd ["_law_script", "_law_k", "_law_first", "_law_second"] (spOther K) := by
  refine F.ok scOther (fun vs H Q E h => ?_) (fun cdv A outer s H vs Q E hr h => ?_)
  · obtain ⟨l, ns, k, f, s, N, F, S, rfl, _⟩ := h
    rfl
  · obtain ⟨l, ns, k, fv, sv, N, F, S, rfl, hs, hk0, hk1, hf, hsd, n12, ldF, ldS, heq, q⟩ := h
    have hu := hu_of hr
    refine ⟨_, pss_cons (ps_set (i := 4) scOther.nd rfl (.inl rfl) (pe_call GD hr (by rfl) cD.m cD.kp cD.b .nil pass0 (pa_cons (pv 0) (pa_cons (pv 1) (pa_cons (pe_op op_rep (pe_lst (pa_cons pe_int (pa_cons pe_int pa_nil))) pe_int) pa_nil)))))
      (pss_cons (ps_set (i := 5) scOther.nd rfl (by first | exact .inl rfl | exact .inr rfl) (pe_callTy (cr_dictL rfl) (by rfl) bl.dict PyProof.Rows.boot_dict (pa_cons (pv 2) pa_nil)))
      (pss_cons (ps_set (i := 6) scOther.nd rfl (by first | exact .inl rfl | exact .inr rfl) (pe_callTy (cr_dictL rfl) (by rfl) bl.dict PyProof.Rows.boot_dict (pa_cons (pv 3) pa_nil)))
      (pss_cons (ps_set (i := 7) scOther.nd rfl (.inl rfl) (pe_lst pa_nil))
      (pss_cons (ps_for PassesOwn.never rfl (pi_range1 (by rfl) bl.range (pa_cons pe_int pa_nil)) (pg_name (i := 8) scOther.nd rfl (.inl rfl))
        (pss_cons (ps_setLc (i := 9) (own := [("_law_name", 14)]) (g := gName 14) (tt := tTest (tOp (rI0 fun i j => .bl (decide (j < i))) (tDGet (tVar 5) (tVar 14)) (tC (.int 0)))) rfl scOther.nd rfl rfl (sw_true rfl rfl rfl (by decide +kernel))
            (pi_list (pe_callB (call_sortedD rfl) (by rfl) bl.sorted boot_sorted (pa_cons (pv 5) pa_nil))) (blkOk_by (N := scopeO) (sc := defScope sOther) (by decide +kernel))
            (fun _ _ _ _ _ => pg_name (i := 14) scOther.nd rfl (Or.inl rfl)) (fun _ _ _ _ _ => pts_one (pt_cmpR op_gt (pe_dget hu (pv 5) (pv 14) (fun _ _ => rfl)) pe_int (nomark _))) (fun _ _ _ _ _ => pv 14))
        (pss_cons (ps_setLc (i := 10) (own := [("_law_name", 14)]) (g := gName 14) (tt := tTest (tOp (rI0 fun i j => .bl (decide (j < i))) (tDGet (tVar 6) (tVar 14)) (tC (.int 0)))) rfl scOther.nd rfl rfl (sw_true rfl rfl rfl (by decide +kernel))
            (pi_list (pe_callB (call_sortedD rfl) (by rfl) bl.sorted boot_sorted (pa_cons (pv 6) pa_nil))) (blkOk_by (N := scopeO) (sc := defScope sOther) (by decide +kernel))
            (fun _ _ _ _ _ => pg_name (i := 14) scOther.nd rfl (Or.inl rfl)) (fun _ _ _ _ _ => pts_one (pt_cmpR op_gt (pe_dget hu (pv 6) (pv 14) (fun _ _ => rfl)) pe_int (nomark _))) (fun _ _ _ _ _ => pv 14))
        (pss_one (ps_if (pt_cmpR (op_neNil hr.units) (pv 9) (pe_lst pa_nil) (nomark _))
          (pss_cons (ps_set (i := 11) scOther.nd rfl (.inl rfl) (pe_ix ix_list (pv 9) (pe_op op_mod (pe_ix ix_list (pv 4) (pe_op op_mul pe_int (pv 8)) (fun _ _ => rfl)) (pe_callB call_len_seq (by rfl) bl.len boot_len (pa_cons (pv 9) pa_nil))) (fun _ _ => rfl)))
          (pss_cons (ps_set (i := 12) scOther.nd rfl (.inl rfl) (pe_ix ix_list (pv 10) (pe_op op_mod (pe_ix ix_list (pv 4) (pe_op op_add (pe_op op_mul pe_int (pv 8)) pe_int) (fun _ _ => rfl)) (pe_callB call_len_seq (by rfl) bl.len boot_len (pa_cons (pv 10) pa_nil))) (fun _ _ => rfl)))
          (pss_cons (ps_set (i := 13) scOther.nd rfl (.inl rfl) (pe_callB (call_min2 rfl) (by rfl) bl.min boot_min (pa_cons (pe_dget hu (pv 5) (pv 11) (fun _ _ => rfl)) (pa_cons (pe_dget hu (pv 6) (pv 12) (fun _ _ => rfl)) pa_nil))))
          (pss_cons (ps_dput hu (pv 5) (pv 11) (pe_op op_sub (pe_dget hu (pv 5) (pv 11) (fun _ _ => rfl)) (pv 13)) rfl)
          (pss_cons (ps_dput hu (pv 6) (pv 12) (pe_op op_sub (pe_dget hu (pv 6) (pv 12) (fun _ _ => rfl)) (pv 13)) rfl)
          (pss_one (ps_expr (pe_bm PySem.F.plainAttrs_list PySem.F.slot_list_append PySem.F.type_list_append mt_append (pv 7) (pa_cons (pe_tup (pa_cons (pv 11) (pa_cons (pv 12) (pa_cons (pv 13) pa_nil)))) pa_nil))))))))) pss_nil)))))
      (pss_one (ps_ret (pv 7))))))), ?_⟩
    refine ⟨_, rfl, _, rfl, le2, fun a1 n1 => ⟨a1, 24, _, rfl, rfl, upd_same, by decide, by decide, by decide, fun a2 n2 => ?_⟩⟩
    have sA : Same H (upd (upd H a1 (.lst [V.int 12, .int 12])) a2 (.lst (List.replicate (Int.toNat 24) [V.int 12, .int 12]).flatten)) := (same_new n1).trans (same_new n2)
    refine ⟨l, a2, ns, (List.replicate 24 [12, 12]).flatten, k, rfl, sql_same hs sA, upd_same.trans (by rfl), hk0, hk1, by decide, by decide, fun H1 dg ds s1 ndg hdg dok => ?_⟩
    have sB := sA.trans s1
    clear sA s1 n1 n2 ndg
    refine ⟨_, rfl, _, F, rfl, hf.same sB, ldF.nd, fun d1 nd1 => ?_⟩
    have sC := sB.trans (same_new (o := .dK (dI (F.map (·.1)) (val F))) nd1)
    refine ⟨_, rfl, _, S, rfl, hsd.same sC, ldS.nd, fun d2 nd2 => ?_⟩
    refine ⟨Nat.zero_le _, fun mv nmv => ?_⟩
    have nd10 : H d1 = none := sB.free nd1
    have nd20 : H d2 = none := sC.free nd2
    have nmv0 : H mv = none := (sC.trans (same_new nd2)).free nmv
    have h12 : d1 ≠ d2 := fun e => by rw [← e, upd_same] at nd2; cases nd2
    have S0 : OhSt H dg d1 d2 mv ds F S (val F) (val S) [] (upd (upd (upd H1 d1 (.dK (dI (F.map (·.1)) (val F)))) d2 (.dK (dI (S.map (·.1)) (val S)))) mv (.lst [])) := by
      refine ⟨(sC.trans (same_new nd2)).trans (same_new nmv), ?_, ?_, ?_, ⟨[], upd_same, .nil⟩⟩
      · exact (same_new nmv) _ _ ((same_new nd2) _ _ ((same_new nd1) _ _ hdg))
      · exact (same_new nmv) _ _ ((same_new nd2) _ _ upd_same)
      · exact (same_new nmv) _ _ upd_same
    have hgm : dg ≠ mv := ne_new ((same_new nd2) _ _ ((same_new nd1) _ _ hdg)) nmv
    generalize upd (upd (upd H1 d1 (.dK (dI (F.map (·.1)) (val F)))) d2 (.dK (dI (S.map (·.1)) (val S)))) mv (.lst []) = H2 at *
    have dl : ds.length = 48 := dok.len.trans (by decide)
    have getd : ∀ j, j < 48 → ∃ d, ds[j]? = some d := fun j hj => ⟨_, List.getElem?_eq_getElem (by omega)⟩
    have gm : ∀ {L : List Int} {j : Nat} {d : Int}, L[j]? = some d → (L.map V.int)[j]? = some (.int d) := fun {L j d} h => by rw [List.getElem?_map, h]; rfl
    have lF := ldF.len
    have lS := ldS.len
    refine ⟨24, rfl, by decide, by decide, ?_⟩
    refine for_range (lo := 0) (n := Int.toNat 24) (otInv l k fv sv dg d1 d2 mv ds N F S H) ⟨none, none, none, none, none, none, _, _, [], rfl, S0, .start ldF ldS n12 heq⟩ (fun i σ' H' hi p' => ?_) fun σ' H' p' => ?_
    · obtain ⟨x8, x9, x10, x11, x12, x13, a, b, M, rfl, S1, O1⟩ := p'
      have i24 : i < 24 := hi
      refine seq_asg (rd_more (i := 5) (a := 14) rfl S1.h1 (by rw [List.length_map]; omega) (fun _ => rfl) (fun _ => rfl) (fun _ => rfl) fun H3 D1 ys s3 nD1 hD1 pm1 => ?_)
      have S3 := S1.mono s3
      refine seq_asg (rd_more (i := 6) (a := 14) rfl S3.h2 (by rw [List.length_map]; omega) (fun _ => rfl) (fun _ => rfl) (fun _ => rfl) fun H4 D2 zs s4 nD2 hD2 pm2 => ?_)
      have S4 := S3.mono s4
      have hD1' := s4 _ _ hD1
      have mo1 : ∀ z, z ∈ ys.filter (fun z => decide (0 < a z)) ↔ z ∈ F.map (·.1) ∧ 0 < a z := fun z => by rw [List.mem_filter, pm1.mem_iff, decide_eq_true_iff]
      have mo2 : ∀ z, z ∈ zs.filter (fun z => decide (0 < b z)) ↔ z ∈ S.map (·.1) ∧ 0 < b z := fun z => by rw [List.mem_filter, pm2.mem_iff, decide_eq_true_iff]
      generalize ys.filter (fun z => decide (0 < a z)) = one at *
      generalize zs.filter (fun z => decide (0 < b z)) = two at *
      refine ⟨_, rfl, Nat.zero_le _, fun e0 ne0 => ⟨D1, e0, one, rfl, rfl, (same_new ne0) _ _ hD1', upd_same, _, rfl, ?_⟩⟩
      have S5 := S4.mono (same_new (o := .lst []) ne0)
      have hD1'' := (same_new (o := .lst []) ne0) _ _ hD1'
      have hD2'' := (same_new (o := .lst []) ne0) _ _ hD2
      generalize upd H4 e0 (.lst []) = H5 at *
      refine ite2 (fun hne => ?_) (fun hne => ?_)
      · have l1 : 0 < one.length := by
          cases one with
          | nil => simp at hne
          | cons z r => simp
        have l2 : 0 < two.length := by
          obtain ⟨z, hz⟩ : ∃ z, z ∈ one := ⟨_, List.getElem_mem l1⟩
          obtain ⟨hz1, hz2⟩ := (mo1 z).mp hz
          have sa : 0 < sm (F.map (·.1)) a := by
            have := sm_lt (l := F.map (·.1)) (f := fun _ => 0) (g := a) (fun x _ => O1.a0 x) hz1 hz2
            rwa [sm_zero fun _ _ => rfl] at this
          rw [O1.eq] at sa
          obtain ⟨y, hy, hy0⟩ := sm_pos_ex sa
          exact List.length_pos_of_mem ((mo2 y).mpr ⟨hy, hy0⟩)
        obtain ⟨e1, he1⟩ := getd (2 * i) (by omega)
        obtain ⟨e2, he2⟩ := getd (2 * i + 1) (by omega)
        have mp1 := modp (i := e1) (n := (one.map V.str).length) (by rw [List.length_map]; exact l1)
        have mp2 := modp (i := e2) (n := (two.map V.str).length) (by rw [List.length_map]; exact l2)
        obtain ⟨st, hst⟩ : ∃ st, one[(e1 % (((one.map V.str).length : Nat) : Int)).toNat]? = some st := ⟨_, List.getElem?_eq_getElem (by have := mp1.1; rw [List.length_map] at this ⊢; exact this)⟩
        obtain ⟨en, hen⟩ : ∃ en, two[(e2 % (((two.map V.str).length : Nat) : Int)).toNat]? = some en := ⟨_, List.getElem?_eq_getElem (by have := mp2.1; rw [List.length_map] at this ⊢; exact this)⟩
        obtain ⟨stF, sta⟩ := (mo1 st).mp (List.mem_of_getElem? hst)
        obtain ⟨enS, enb⟩ := (mo2 en).mp (List.mem_of_getElem? hen)
        refine ⟨_, rfl, _, rfl, _, rfl, _, _, rfl, rfl, .inl ⟨by omega, by omega⟩, dg, _, _, .int e1, rfl, rfl, SqL.of S5.hdg, at_of (j := 2 * i) (by omega) (gm he1), _, rfl, D1, _, rfl, .inl (SqL.of hD1''), _, _, rfl, rfl, (by rw [List.length_map]; omega), D1, _, _, .str st, rfl, rfl, SqL.of hD1'', at_of (j := (e1 % (((one.map V.str).length : Nat) : Int)).toNat) mp1.2 (by rw [List.getElem?_map, hst]; rfl), ?_⟩
        refine ⟨_, rfl, _, rfl, _, rfl, _, _, rfl, rfl, .inl ⟨by omega, by omega⟩, _, _, rfl, rfl, dg, _, _, .int e2, rfl, rfl, SqL.of S5.hdg, at_of (j := 2 * i + 1) (by omega) (gm he2), _, rfl, D2, _, rfl, .inl (SqL.of hD2''), _, _, rfl, rfl, (by rw [List.length_map]; omega), D2, _, _, .str en, rfl, rfl, SqL.of hD2'', at_of (j := (e2 % (((two.map V.str).length : Nat) : Int)).toNat) mp2.2 (by rw [List.getElem?_map, hen]; rfl), ?_⟩
        have gs : ∀ {H' : Hp} {d : Addr} {ks : List Str} {f : Str → Int} {v : Str}, v ∈ ks → H' d = some (.dK (dI ks f)) → DGet H' d (.str v) (some (.int (f v))) := fun {H' d ks f v} hv h => by
          have := DGet.k (k := Sum.inr v) h; rw [dV_get hv] at this; exact this
        refine ⟨_, rfl, _, rfl, d1, .int (a st), rfl, gs stF S5.h1, _, rfl, _, rfl, d2, .int (b en), rfl, gs enS S5.h2, a st, b en, rfl, ?_⟩
        generalize hk : (if b en < a st then b en else a st) = kk
        have O2 := O1.turn ldF ldS stF enS sta enb hk.symm
        refine ⟨_, rfl, _, rfl, d1, .int (a st), rfl, gs stF S5.h1, _, rfl, _, _, rfl, rfl, _, rfl, _, rfl, d1, _, rfl, DPut.k (k := Sum.inr st) S5.h1 (by rw [dV_length, List.length_map]; exact small (by omega)), ?_⟩
        rw [dI_put stF]
        have h21 : d2 ≠ d1 := h12.symm
        obtain ⟨xs, hm5, pm5⟩ := S5.hm
        have hm1 : mv ≠ d1 := fun e => by rw [e, S5.h1] at hm5; cases hm5
        have hm2 : mv ≠ d2 := fun e => by rw [e, S5.h2] at hm5; cases hm5
        have hg1 : dg ≠ d1 := fun e => by have := S5.hdg; rw [e, S5.h1] at this; cases this
        have hg2 : dg ≠ d2 := fun e => by have := S5.hdg; rw [e, S5.h2] at this; cases this
        have s6 : Same H (upd H5 d1 (.dK (dI (F.map (·.1)) (put a st (a st - kk))))) := same_own S5.same nd10
        have k1 : ∀ c o, c ≠ d1 → H5 c = some o → upd H5 d1 (.dK (dI (F.map (·.1)) (put a st (a st - kk)))) c = some o := fun c o hc e => by rw [upd_ne hc]; exact e
        have h61 : upd H5 d1 (.dK (dI (F.map (·.1)) (put a st (a st - kk)))) d1 = some (.dK (dI (F.map (·.1)) (put a st (a st - kk)))) := upd_same
        have t6 : TStay H5 (upd H5 d1 (.dK (dI (F.map (·.1)) (put a st (a st - kk))))) := tstay_upd S5.h1 fun ys z => nomatch z
        generalize upd H5 d1 (.dK (dI (F.map (·.1)) (put a st (a st - kk)))) = H6 at *
        have h62 := k1 _ _ h21 S5.h2
        refine ⟨_, rfl, _, rfl, d2, .int (b en), rfl, gs enS h62, _, rfl, _, _, rfl, rfl, _, rfl, _, rfl, d2, _, rfl, DPut.k (k := Sum.inr en) h62 (by rw [dV_length, List.length_map]; exact small (by omega)), ?_⟩
        rw [dI_put enS]
        have s7 : Same H (upd H6 d2 (.dK (dI (S.map (·.1)) (put b en (b en - kk))))) := same_own s6 nd20
        have k2 : ∀ c o, c ≠ d2 → H6 c = some o → upd H6 d2 (.dK (dI (S.map (·.1)) (put b en (b en - kk)))) c = some o := fun c o hc e => by rw [upd_ne hc]; exact e
        have h72 : upd H6 d2 (.dK (dI (S.map (·.1)) (put b en (b en - kk)))) d2 = some (.dK (dI (S.map (·.1)) (put b en (b en - kk)))) := upd_same
        have t7 : TStay H6 (upd H6 d2 (.dK (dI (S.map (·.1)) (put b en (b en - kk))))) := tstay_upd h62 fun ys z => nomatch z
        generalize upd H6 d2 (.dK (dI (S.map (·.1)) (put b en (b en - kk)))) = H7 at *
        have hm7 := k2 _ _ hm2 (k1 _ _ hm1 hm5)
        have pm7 := trips_stay pm5 (t6.trans t7)
        have xl := Paired.length pm7
        have Ml := O1.len
        have h71 := k2 _ _ h12 h61
        have hg7 := k2 _ _ hg2 (k1 _ _ hg1 S5.hdg)
        refine ⟨_, rfl, .inl ⟨rfl, _, SqL.of hm7⟩, _, rfl, _, rfl, _, rfl, le3, fun tp ntp => ⟨mv, _, _, rfl, rfl, (upd_ne (ne_new hm7 ntp)).trans hm7, small (by omega), ?_⟩⟩
        refine ⟨_, _, _, _, _, _, _, _, _, rfl, ⟨same_own (s7.trans (same_new ntp)) nmv0, ?_, ?_, ?_, ⟨_, upd_same, app_trip hm7 ntp pm7⟩⟩, O2⟩
        · rw [upd_ne hgm, upd_ne (ne_new hg7 ntp)]; exact hg7
        · rw [upd_ne hm1.symm, upd_ne (ne_new h71 ntp)]; exact h71
        · rw [upd_ne hm2.symm, upd_ne (ne_new h72 ntp)]; exact h72
      · have e1 : one = [] := by
          cases one with
          | nil => rfl
          | cons z r => simp at hne
        exact ⟨_, _, _, _, _, _, a, b, M, rfl, S5, O1.idle i24 fun x hx h0 => by have := (mo1 x).mpr ⟨hx, h0⟩; rw [e1] at this; cases this⟩
    · obtain ⟨x8, x9, x10, x11, x12, x13, a, b, M, rfl, S1, O1⟩ := p'
      obtain ⟨xs, hm, pm⟩ := S1.hm
      exact ⟨_, rfl, q H' mv M S1.same ⟨mv, xs, rfl, hm, pm⟩ O1.mem (fun v => O1.done v) O1.len⟩
end
end K59

set_option Elab.async false
set_option linter.all false
set_option maxRecDepth 100000
set_option maxHeartbeats 4000000
namespace K59
open PySem PySem.Spec PyProof.Rows L2 GxR
/-! ### what the law asks for, in plain Lean -/
theorem sle_anti {x y : Str} (h : sle x y) (h' : sle y x) : x = y := by
  have e : x.cps.toList = y.cps.toList := List.le_antisymm h h'
  cases x; cases y
  have : ∀ {a b : Array Nat}, a.toList = b.toList → a = b := fun {a b} h => by cases a; cases b; exact congrArg Array.mk h
  exact congrArg Str.mk (this e)
theorem nodup_of_map {F : List (Str × Int)} (h : (F.map (·.1)).Nodup) : F.Nodup := by
  unfold List.Nodup at *
  rw [List.pairwise_map] at h
  exact h.imp fun h e => h (by rw [e])
theorem loads_eq {R S : List (Str × Int)} (hR : R.Pairwise fun a b => sle a.1 b.1) (hS : S.Pairwise fun a b => sle a.1 b.1) (nR : (R.map (·.1)).Nodup) (nS : (S.map (·.1)).Nodup) (h : ∀ q, q ∈ R ↔ q ∈ S) : R = S := by
  have pm : R.Perm S := (List.perm_ext_iff_of_nodup (nodup_of_map nR) (nodup_of_map nS)).mpr h
  refine List.Perm.eq_of_pairwise (fun a b ha hb h1 h2 => ?_) hR hS pm
  have e1 : a.1 = b.1 := sle_anti h1 h2
  have h3 : (b.1, a.2) ∈ S := (h _).mp (by rw [← e1]; exact ha)
  have v1 := val_mem nS h3
  have v2 := val_mem nS (show (b.1, b.2) ∈ S from hb)
  exact Prod.ext e1 (by omega)
theorem LdG.ok {N F S : List (Str × Int)} (hF : LdG N 999 F) (hS : LdG N 999 S) (n12 : N.length ≤ 12) (e : sm F (fun q => q.2) = sm S fun q => q.2) : LdOk N F S :=
  ⟨hF.sub, hS.sub, e, by have := hF.len; omega, by have := hS.len; omega, fun q hq => by have := hF.bd q hq; omega, fun q hq => by have := hS.bd q hq; omega⟩
theorem moved_eq {N : List (Str × Int)} {E : List Ed'} {σ : Ed' → Str → Int} {F S R : List (Str × Int)} {M : List (Str × Str × Int)} (hF : LdG N 999 F) (hS : LdG N 999 S) (mv : MvOk N E σ F S (fun _ => 0) M)
    (srt : R.Pairwise fun a b => sle a.1 b.1) (nR : (R.map (·.1)).Nodup) (h1 : ∀ x v, (x, v) ∈ R → v = held F M x ∧ v ≠ 0) (h2 : ∀ x, held F M x ≠ 0 → (x, held F M x) ∈ R) : R = S := by
  have hv : ∀ x, held F M x = val S x := fun x => by
    unfold held
    by_cases hx : x ∈ names N
    · have := mv.mov x hx
      rw [← this]
      unfold mo; omega
    · rw [val_out (F := F) (v := x) fun q hq e => hx (by rw [← e]; exact hF.sub q hq), val_out (F := S) (v := x) fun q hq e => hx (by rw [← e]; exact hS.sub q hq), sm_zero fun p hp => by
        obtain ⟨a, b, _⟩ := mv.mem p hp
        rw [if_neg fun e => hx (by rw [← e]; exact a), if_neg fun e => hx (by rw [← e]; exact b)]; omega]
      rfl
  refine loads_eq srt hS.srt nR hS.nd fun q => ⟨fun hq => ?_, fun hq => ?_⟩
  · obtain ⟨x, v⟩ := q
    obtain ⟨e, n0⟩ := h1 x v hq
    rw [hv] at e
    obtain ⟨q', hq', e'⟩ := val_ne (F := S) (v := x) (by rw [← e]; exact n0)
    have := val_mem hS.nd (show (q'.1, q'.2) ∈ S from hq')
    rw [e'] at this
    have e2 : q' = (x, v) := Prod.ext e' (by show q'.2 = v; omega)
    rw [← e2]; exact hq'
  · obtain ⟨x, v⟩ := q
    have e := val_mem hS.nd hq
    have b := (hS.bd _ hq).1
    have := h2 x (by rw [hv, e]; show v ≠ 0; have b : 1 ≤ v := b; omega)
    rw [hv, e] at this
    exact this
theorem fl_neg {ns : List Str} {σ : Ed' → Str → Int} {m m' : Str → Int} {e : Ed'} (h : ∀ v, m' v = - m v) : fl ns σ m' e = - fl ns σ m e := by
  have : fl ns σ m' e = sm ns fun x => (-1) * (σ e x * m x) := sm_congr fun x _ => by rw [h x, Int.mul_neg]; omega
  rw [this, sm_mul]
  show -1 * fl ns σ m e = _
  omega
theorem cost_swap {N : List (Str × Int)} {E : List Ed'} {σ : Ed' → Str → Int} {F S : List (Str × Int)} : sm E (fun e => e.2.2 * ab (fo N σ S F e)) = sm E fun e => e.2.2 * ab (fo N σ F S e) := sm_congr fun e _ => by
  have : fo N σ S F e = - fo N σ F S e := fl_neg fun v => by unfold mo; omega
  rw [this]
  congr 1
  unfold ab; omega
theorem mv_pay {N : List (Str × Int)} {E : List Ed'} {σ : Ed' → Str → Int} {F S : List (Str × Int)} {M : List (Str × Str × Int)} (mv : MvOk N E σ F S (fun _ => 0) M) : sm M (fun p => p.2.2 * dist E σ p.1 p.2.1) = sm E fun e => e.2.2 * ab (fo N σ F S e) := by
  have := mv.pay
  rw [sm_zero (l := E) fun e _ => ?_, Int.add_zero] at this
  · exact this
  · have z2 : fl (names N) σ (fun _ => 0) e = 0 := sm_zero fun x _ => Int.mul_zero _
    rw [z2]; show _ * ab 0 = 0; rw [show ab 0 = 0 from rfl]; omega
theorem gain_eq {N : List (Str × Int)} {E : List Ed'} {σ : Ed' → Str → Int} {F S : List (Str × Int)} (G : Good (names N) E σ) (ld : LdOk N F S) (c : Int) :
    sm F (fun q => (priceOf E σ (fo N σ F S) q.1 - c) * q.2) - sm S (fun q => (priceOf E σ (fo N σ F S) q.1 - c) * q.2) = sm E fun e => e.2.2 * ab (fo N σ F S e) := by
  have nd : (names N).Nodup := G.nd
  have z := ld.zero nd
  rw [← sm_val nd (fun x => priceOf E σ (fo N σ F S) x - c) ld.f, ← sm_val nd (fun x => priceOf E σ (fo N σ F S) x - c) ld.s, ← sm_sub]
  have := Good.gain G z (p := fun x => priceOf E σ (fo N σ F S) x - c) fun e he => by
    have := G.pot_edge (fo N σ F S) he
    show _ - c - (_ - c) = _
    rw [← this]; omega
  rw [← this]
  exact sm_congr fun x _ => by unfold mo; rw [Int.mul_sub]
theorem price_le {N : List (Str × Int)} {E : List Ed'} {σ : Ed' → Str → Int} (G : Good (names N) E σ) (f : Ed' → Int) {e : Ed'} (he : e ∈ E) : priceOf E σ f e.1 - priceOf E σ f e.2.1 ≤ e.2.2 ∧ priceOf E σ f e.2.1 - priceOf E σ f e.1 ≤ e.2.2 := by
  have h := G.pot_edge f he
  have p := G.pos e he
  unfold sg at h
  split at h
  · rw [Int.mul_one] at h; omega
  · split at h
    · rw [Int.mul_neg, Int.mul_one] at h; omega
    · rw [Int.mul_zero] at h; omega
/-! ### readings -/
theorem LoadAt.sameB {H H' : Hp} {P : Addr} {v : V} {F : List (Str × Int)} (h : LoadAt H v F) (s : SameB P H H') (t : TabG H P) : LoadAt H' v F :=
  let ⟨l, xs, h1, h2, h3⟩ := h; ⟨l, xs, h1, s _ _ (tabG_ne t h2 fun _ e => nomatch e) h2, pairs_stay h3 (s.tstay t)⟩
theorem sql_sameB {K : PySem.W.Frag} {H H' : Hp} {P a : Addr} {xs : List V} (h : SqL K H a xs) (s : SameB P H H') (t : TabG H P) : SqL K H' a xs := by
  rcases h with h | h
  · rcases h with h | ⟨o, h⟩
    · exact .inl (.inl (s _ _ (tabG_ne t h fun _ e => nomatch e) h))
    · exact .inl (.inr ⟨o, s _ _ (tabG_ne t h fun _ e => nomatch e) h⟩)
  · exact .inr h
/-- [many * distance(tree, one, other) for one, other, many in moves] -/
theorem rd_dist {K : PySem.W.Frag} {i a b c t : Nat} {σ : L2.St} {H : Hp} {Q : VK} {v tv : V} {M : List (Str × Str × Int)} {N : List (Str × Int)} {E : List Ed'} {τ : Ed' → Str → Int} (hv : σ[i]? = some (some v)) (hl : MovesAt H v M) (hM : M.length ≤ 2397600) (hT : TreeAt H tv N E) (ar : Arb N E τ)
    (mem : ∀ p ∈ M, p.1 ∈ names N ∧ p.2.1 ∈ names N) (hw : ∀ x y z, wipe ((((wipe σ [a, b, c]).set a x).set b y).set c z) [a, b, c] = wipe σ [a, b, c]) (ht : ∀ x y z, ((((wipe σ [a, b, c]).set a x).set b y).set c z)[t]? = some (some tv))
    (ha : ∀ x y z, ((((wipe σ [a, b, c]).set a x).set b y).set c z)[a]? = some x) (hb : ∀ x y z, ((((wipe σ [a, b, c]).set a x).set b y).set c z)[b]? = some y) (hc : ∀ x y z, ((((wipe σ [a, b, c]).set a x).set b y).set c z)[c]? = some z)
    (q : ∀ H' D, Same H H' → H D = none → H' D = some (.lst ((M.map fun p => p.2.2 * dist E τ p.1 p.2.1).map V.int)) → Q (.ref D) H') :
    tLc (iList K (tVar i)) (gTup K 3 (gCons (gName a) (gCons (gName b) (gCons (gName c) gNil)))) tYes (tOp (rI CMul fun i j => .int (i * j)) (tVar c) (tCall spDist [] E0 (tCons (tVar t) (tCons (tVar a) (tCons (tVar b) tNil))))) [a, b, c] σ H Q := by
  obtain ⟨l, xs, rfl, hL, hp⟩ := hl
  refine ⟨_, hv, l, rfl, ⟨xs, SqL.of hL⟩, fun D hD => ?_⟩
  refine lc_list (K := K) (a := l) (xs := xs) (fun i H' => Same H H' ∧ H' D = some (.lst (((M.take i).map fun p => p.2.2 * dist E τ p.1 p.2.1).map V.int))) ⟨same_new hD, by rw [upd_same]; rfl⟩ (fun i H' _ p => SqL.of (p.1 _ _ hL)) (fun i x H' hi p => ?_) fun H' p => ?_
  · obtain ⟨s1, hl⟩ := p
    obtain ⟨⟨x, y, n⟩, hm, bb, rfl, hbb⟩ := paired_at hp hi
    obtain ⟨hx, hy⟩ := mem _ (List.mem_of_getElem? hm)
    have il := (List.getElem?_eq_some_iff.mp hm).1
    have bd := ar.dist_bd x y
    refine ⟨bb, _, rfl, SqT.of (s1 _ _ hbb), rfl, _, _, rfl, _, _, rfl, _, _, rfl, rfl, hw _ _ _, ?_⟩
    refine ⟨_, hc _ _ _, _, ht _ _ _, _, ha _ _ _, _, hb _ _ _, tv, x, y, N, E, τ, rfl, hT.stay (same_tstay s1), ar, hx, hy, fun H3 s3 => ?_⟩
    refine ⟨_, _, rfl, rfl, .inr ⟨by omega, by omega⟩, _, s3 _ _ hl, Nat.lt_of_le_of_lt (m := 2397600) (by rw [List.length_map, List.length_map, List.length_take]; omega) (by decide), same_own (s1.trans s3) hD, ?_⟩
    rw [upd_same, List.take_add_one, hm]; simp
  · obtain ⟨s1, hl⟩ := p
    rw [Paired.length hp, List.take_length] at hl
    exact q H' D s1 hD hl
/-- [price[name] * number for name, number in load] -/
theorem rd_worth {K : PySem.W.Frag} {i a b p : Nat} {σ : L2.St} {H : Hp} {Q : VK} {v : V} {F : List (Str × Int)} {d : Addr} {zs : List Str} {pr : Str → Int} (hv : σ[i]? = some (some v)) (hl : LoadAt H v F) (hF : F.length ≤ 100) (hn : ∀ q ∈ F, 0 ≤ q.2 ∧ q.2 ≤ 999) (hd : H d = some (.dK (dI zs pr))) (hz : ∀ q ∈ F, q.1 ∈ zs)
    (hw : ∀ x y, wipe (((wipe σ [a, b]).set a x).set b y) [a, b] = wipe σ [a, b]) (ha : ∀ x y, (((wipe σ [a, b]).set a x).set b y)[a]? = some x) (hb : ∀ x y, (((wipe σ [a, b]).set a x).set b y)[b]? = some y) (hpp : ∀ x y, (((wipe σ [a, b]).set a x).set b y)[p]? = some (some (.ref d)))
    (q : ∀ H' D, Same H H' → H D = none → H' D = some (.lst ((F.map fun q => pr q.1 * q.2).map V.int)) → Q (.ref D) H') :
    tLc (iList K (tVar i)) (gTup K 2 (gCons (gName a) (gCons (gName b) gNil))) tYes (tOp (rI CMul fun i j => .int (i * j)) (tDGet (tVar p) (tVar a)) (tVar b)) [a, b] σ H Q := by
  obtain ⟨l, xs, rfl, hL, hp⟩ := hl
  refine ⟨_, hv, l, rfl, ⟨xs, SqL.of hL⟩, fun D hD => ?_⟩
  refine lc_list (K := K) (a := l) (xs := xs) (fun i H' => Same H H' ∧ H' D = some (.lst (((F.take i).map fun q => pr q.1 * q.2).map V.int))) ⟨same_new hD, by rw [upd_same]; rfl⟩ (fun i H' _ p => SqL.of (p.1 _ _ hL)) (fun i x H' hi p => ?_) fun H' p => ?_
  · obtain ⟨s1, hl⟩ := p
    obtain ⟨⟨m, n⟩, hm, bb, rfl, hbb⟩ := paired_at hp hi
    have hq := List.mem_of_getElem? hm
    have hnn : 0 ≤ n ∧ n ≤ 999 := hn _ hq
    refine ⟨bb, _, rfl, SqT.of (s1 _ _ hbb), rfl, _, _, rfl, _, _, rfl, rfl, hw _ _, ?_⟩
    refine ⟨_, hpp _ _, _, ha _ _, d, .int (pr m), rfl, (by have := DGet.k (k := Sum.inr m) (s1 _ _ hd); rw [dV_get (hz _ hq)] at this; exact this), _, hb _ _, _, _, rfl, rfl, .inr ⟨by omega, by omega⟩, _, hl, ?_, same_own s1 hD, ?_⟩
    · rw [List.length_map, List.length_map, List.length_take]; exact small (by omega)
    · rw [upd_same, List.take_add_one, hm]; simp
  · obtain ⟨s1, hl⟩ := p
    rw [Paired.length hp, List.take_length] at hl
    exact q H' D s1 hD hl
end K59

set_option Elab.async false
set_option linter.all false
set_option maxRecDepth 100000
set_option maxHeartbeats 4000000
namespace K59
open PySem PySem.Spec PyProof.Rows L2 GxR
abbrev scopeW : List Str := ["_law_script", "_law_k", "_law_tree_here", "_law_first", "_law_second", "_law_moves", "_law_told", "_law_one", "_law_other_here", "_law_price", "_law_length", "_law_gain", "_law_others", "_law_many", "_law_name"]
def lawInv (T l : Addr) (H0 : Hp) (i : Nat) (σ' : L2.St) (H' : Hp) : Prop :=
  (∃ x1 x2 x3 x4 x5 x6 x7 x8 x9 x10 x11 x12 : Option V, σ' = [some (.ref l), x1, x2, x3, x4, x5, x6, x7, x8, x9, x10, x11, x12, none, none]) ∧ SameB T H0 H' ∧ TabG H' T
theorem seq_if {c : TT} {t u r : TS} {D : Ends} {σ : L2.St} {H : Hp} (h : c σ H fun b H1 => if b = true then t { D with nx := r D } σ H1 else u { D with nx := r D } σ H1) : tSeq (tIfS c t u) r D σ H := h
theorem test_sum {rr : R2} {K : PySem.W.Frag} {tl tb : TE} {σ : L2.St} {H : Hp} {Q : Bool → Hp → Prop} (h : tl σ H fun x H1 => (rSum K) [x] H1 fun v H2 => tb σ H2 fun y H3 => rr v y H3 fun z H4 => ∃ k, z = .bl k ∧ Q k H4) : tTest (tOp rr (tCB (rSum K) (tCons tl tNil)) tb) σ H Q := h
theorem op_sum2 {rr : R2} {K : PySem.W.Frag} {ta tb : TE} {σ : L2.St} {H : Hp} {Q : VK} (h : ta σ H fun x H1 => (rSum K) [x] H1 fun v H2 => tb σ H2 fun y H3 => (rSum K) [y] H3 fun u H4 => rr v u H4 Q) : tOp rr (tCB (rSum K) (tCons ta tNil)) (tCB (rSum K) (tCons tb tNil)) σ H Q := h
section
variable {P : Program} {w : World} {K : PySem.W.Frag} {mg : Str → Option Value} {base : Heap}
def spLaw (K : PySem.W.Frag) (T : Addr) : Sp := fun vs H Q _ => ∃ (l : Addr) (ns : List Int), vs = [.ref l] ∧ SqL K H l (ns.map V.int) ∧ TabG H T ∧ ∀ H', Q (.bl true) H'
theorem ok_law {T f fT fLo fS fPl fC fM fD fP fO : Addr} {fd fdT fdLo fdS fdPl fdC fdM fdD fdP fdO : FuncData} (F : Fun K "law" "law" sLaw f fd) (bl : Blt mg)
    (GT : FnOk P w K mg base CX0 3 fT fdT ["_law_script", "_law_k", "_law_most"] (spTree K)) (cT : Cal K mg "_law_tree" fT fdT ["_law_script", "_law_k", "_law_most"])
    (GLo : FnOk P w K mg base CX0 3 fLo fdLo ["_law_script", "_law_k", "_law_tree_here"] (spLoads K)) (cLo : Cal K mg "_law_loads" fLo fdLo ["_law_script", "_law_k", "_law_tree_here"])
    (GS : FnOk P w K mg base CX0 1 fS fdS ["_law_load"] spSum) (cS : Cal K mg "_law_sum" fS fdS ["_law_load"])
    (GPl : FnOk P w K mg base CX0 5 fPl fdPl ["some_tree", "first", "second"] (spPlan T)) (cPl : Cal K mg "plan" fPl fdPl ["some_tree", "first", "second"])
    (GC : FnOk P w K mg base CX0 5 fC fdC ["some_tree", "first", "second"] spCost) (cC : Cal K mg "cost" fC fdC ["some_tree", "first", "second"])
    (GM : FnOk P w K mg base CX0 1 fM fdM ["_law_load", "_law_moves"] spMoved) (cM : Cal K mg "_law_moved" fM fdM ["_law_load", "_law_moves"])
    (GD : FnOk P w K mg base CX0 3 fD fdD ["some_tree", "first", "second"] spDist) (cD : Cal K mg "distance" fD fdD ["some_tree", "first", "second"])
    (GP : FnOk P w K mg base CX0 5 fP fdP ["some_tree", "first", "second"] spPrices) (cP : Cal K mg "prices" fP fdP ["some_tree", "first", "second"])
    (GO : FnOk P w K mg base CX0 3 fO fdO ["_law_script", "_law_k", "_law_first", "_law_second"] (spOther K)) (cO : Cal K mg "_law_other" fO fdO ["_law_script", "_law_k", "_law_first", "_law_second"]) :
    FnOk P w K mg base CX0 6 f fd ["_law_script"] (spLaw K T) := by
  refine F.ok scLaw (fun vs H Q E h => ?_) (fun cdv A outer s H vs Q E hr h => ?_)
  · obtain ⟨l, ns, rfl, _⟩ := h
    rfl
  · obtain ⟨l, ns, rfl, hs, tab, q⟩ := h
    have hu := hu_of hr
    have hr3 : Room 3 _ := hr.mono (by decide)
    have hr1 : Room 1 _ := hr.mono (by decide)
    refine ⟨_, pss_cons (ps_for PassesOwn.never rfl (pi_range1 (by rfl) bl.range (pa_cons (pe_callB (call_min2 rfl) (by rfl) bl.min boot_min (pa_cons pe_int (pa_cons (pe_callB (call_max2 rfl) (by rfl) bl.max boot_max (pa_cons pe_int (pa_cons (pe_op op_fdiv (pe_callB call_len_seq (by rfl) bl.len boot_len (pa_cons (pv 0) pa_nil)) pe_int) pa_nil))) pa_nil))) pa_nil)) (pg_name (i := 1) scLaw.nd rfl (.inl rfl))
        (pss_cons (ps_set (i := 2) scLaw.nd rfl (by first | exact .inl rfl | exact .inr rfl) (pe_call GT hr3 (by rfl) cT.m cT.kp cT.b .nil pass0 (pa_cons (pv 0) (pa_cons (pe_op op_mul pe_int (pv 1)) (pa_cons pe_int pa_nil)))))
        (pss_cons (ps_asg (pe_call GLo hr3 (by rfl) cLo.m cLo.kp cLo.b .nil pass0 (pa_cons (pv 0) (pa_cons (pe_op op_add (pe_op op_mul pe_int (pv 1)) pe_int) (pa_cons (pv 2) pa_nil)))) (pg_tup rfl (pgs_cons (pg_name (i := 3) scLaw.nd rfl (.inl rfl)) (pgs_cons (pg_name (i := 4) scLaw.nd rfl (.inl rfl)) pgs_nil))))
        (pss_one (ps_if (pt_cmpR op_eq (pe_call GS hr1 (by rfl) cS.m cS.kp cS.b .nil pass0 (pa_cons (pv 3) pa_nil)) (pe_call GS hr1 (by rfl) cS.m cS.kp cS.b .nil pass0 (pa_cons (pv 4) pa_nil)) (nomark _))
          (pss_cons (ps_set (i := 5) scLaw.nd rfl (.inl rfl) (pe_call GPl hr (by rfl) cPl.m cPl.kp cPl.b .nil pass0 (pa_cons (pv 2) (pa_cons (pv 3) (pa_cons (pv 4) pa_nil)))))
          (pss_cons (ps_set (i := 6) scLaw.nd rfl (.inl rfl) (pe_call GC hr (by rfl) cC.m cC.kp cC.b .nil pass0 (pa_cons (pv 2) (pa_cons (pv 3) (pa_cons (pv 4) pa_nil)))))
          (pss_cons (ps_if (PW.pt (pw_or (pt_cmpR (op_neL hr.units) (pe_call GM hr1 (by rfl) cM.m cM.kp cM.b .nil pass0 (pa_cons (pv 3) (pa_cons (pv 5) pa_nil))) (pv 4) (nomark _))
              (pw_or1 (pt_cmpR op_ne (pe_call GC hr (by rfl) cC.m cC.kp cC.b .nil pass0 (pa_cons (pv 2) (pa_cons (pv 4) (pa_cons (pv 3) pa_nil)))) (pv 6) (nomark _))))) (pss_one (ps_ret pe_bl)) pss_nil)
          (pss_cons (ps_if (pt_cmpR op_ne (pe_callB (cr_sum rfl) (by rfl) bl.sum boot_sum (pa_cons (pe_lc (own := [("_law_one", 7), ("_law_other_here", 8), ("_law_many", 13)]) (g := gTup K 3 (gCons (gName 7) (gCons (gName 8) (gCons (gName 13) gNil)))) (tt := tYes) rfl scLaw.nd (pi_list (pv 5)) (blkOk_by (N := scopeW) (sc := defScope sLaw) (by decide +kernel))
              (fun _ _ _ _ _ => pg_tup rfl (pgs_cons (pg_name (i := 7) scLaw.nd rfl (Or.inl rfl)) (pgs_cons (pg_name (i := 8) scLaw.nd rfl (Or.inl rfl)) (pgs_cons (pg_name (i := 13) scLaw.nd rfl (Or.inl rfl)) pgs_nil)))) (fun _ _ _ _ _ => pts_nil)
              (fun _ _ _ _ _ => pe_op op_mul (pv 13) (pe_call GD hr3 (by rfl) cD.m cD.kp cD.b .nil pass0 (pa_cons (pv 2) (pa_cons (pv 7) (pa_cons (pv 8) pa_nil)))))) pa_nil)) (pv 6) (nomark _)) (pss_one (ps_ret pe_bl)) pss_nil)
          (pss_cons (ps_set (i := 9) scLaw.nd rfl (by first | exact .inl rfl | exact .inr rfl) (pe_callTy (cr_dictL rfl) (by rfl) bl.dict PyProof.Rows.boot_dict (pa_cons (pe_call GP hr (by rfl) cP.m cP.kp cP.b .nil pass0 (pa_cons (pv 2) (pa_cons (pv 3) (pa_cons (pv 4) pa_nil)))) pa_nil)))
          (pss_cons (ps_for PassesOwn.never rfl (pi_tup (pe_ix ix_tup (pv 2) pe_int (fun _ _ => rfl))) (pg_tup rfl (pgs_cons (pg_name (i := 7) scLaw.nd rfl (.inl rfl)) (pgs_cons (pg_name (i := 8) scLaw.nd rfl (.inl rfl)) (pgs_cons (pg_name (i := 10) scLaw.nd rfl (.inl rfl)) pgs_nil))))
            (pss_one (ps_if (PW.pt (pw_or (pt_cmpR op_gt (pe_op op_sub (pe_dget hu (pv 9) (pv 7) (fun _ _ => rfl)) (pe_dget hu (pv 9) (pv 8) (fun _ _ => rfl))) (pv 10) (nomark _))
              (pw_or1 (pt_cmpR op_gt (pe_op op_sub (pe_dget hu (pv 9) (pv 8) (fun _ _ => rfl)) (pe_dget hu (pv 9) (pv 7) (fun _ _ => rfl))) (pv 10) (nomark _))))) (pss_one (ps_ret pe_bl)) pss_nil)))
          (pss_cons (ps_set (i := 11) scLaw.nd rfl (.inl rfl) (pe_op op_sub
            (pe_callB (cr_sum rfl) (by rfl) bl.sum boot_sum (pa_cons (pe_lc (own := [("_law_name", 14), ("_law_many", 13)]) (g := gTup K 2 (gCons (gName 14) (gCons (gName 13) gNil))) (tt := tYes) rfl scLaw.nd (pi_list (pv 3)) (blkOk_by (N := scopeW) (sc := defScope sLaw) (by decide +kernel))
              (fun _ _ _ _ _ => pg_tup rfl (pgs_cons (pg_name (i := 14) scLaw.nd rfl (Or.inl rfl)) (pgs_cons (pg_name (i := 13) scLaw.nd rfl (Or.inl rfl)) pgs_nil))) (fun _ _ _ _ _ => pts_nil) (fun _ _ _ _ _ => pe_op op_mul (pe_dget hu (pv 9) (pv 14) (fun _ _ => rfl)) (pv 13))) pa_nil))
            (pe_callB (cr_sum rfl) (by rfl) bl.sum boot_sum (pa_cons (pe_lc (own := [("_law_name", 14), ("_law_many", 13)]) (g := gTup K 2 (gCons (gName 14) (gCons (gName 13) gNil))) (tt := tYes) rfl scLaw.nd (pi_list (pv 4)) (blkOk_by (N := scopeW) (sc := defScope sLaw) (by decide +kernel))
              (fun _ _ _ _ _ => pg_tup rfl (pgs_cons (pg_name (i := 14) scLaw.nd rfl (Or.inl rfl)) (pgs_cons (pg_name (i := 13) scLaw.nd rfl (Or.inl rfl)) pgs_nil))) (fun _ _ _ _ _ => pts_nil) (fun _ _ _ _ _ => pe_op op_mul (pe_dget hu (pv 9) (pv 14) (fun _ _ => rfl)) (pv 13))) pa_nil))))
          (pss_cons (ps_set (i := 12) scLaw.nd rfl (.inl rfl) (pe_call GO hr3 (by rfl) cO.m cO.kp cO.b .nil pass0 (pa_cons (pv 0) (pa_cons (pe_op op_add (pe_op op_mul pe_int (pv 1)) pe_int) (pa_cons (pv 3) (pa_cons (pv 4) pa_nil))))))
          (pss_one (ps_if (PW.pt (pw_or (pt_cmpR op_ne (pv 11) (pv 6) (nomark _)) (pw_or1 (pt_cmpR op_lt
            (pe_callB (cr_sum rfl) (by rfl) bl.sum boot_sum (pa_cons (pe_lc (own := [("_law_one", 7), ("_law_other_here", 8), ("_law_many", 13)]) (g := gTup K 3 (gCons (gName 7) (gCons (gName 8) (gCons (gName 13) gNil)))) (tt := tYes) rfl scLaw.nd (pi_list (pv 12)) (blkOk_by (N := scopeW) (sc := defScope sLaw) (by decide +kernel))
              (fun _ _ _ _ _ => pg_tup rfl (pgs_cons (pg_name (i := 7) scLaw.nd rfl (Or.inl rfl)) (pgs_cons (pg_name (i := 8) scLaw.nd rfl (Or.inl rfl)) (pgs_cons (pg_name (i := 13) scLaw.nd rfl (Or.inl rfl)) pgs_nil)))) (fun _ _ _ _ _ => pts_nil)
              (fun _ _ _ _ _ => pe_op op_mul (pv 13) (pe_call GD hr3 (by rfl) cD.m cD.kp cD.b .nil pass0 (pa_cons (pv 2) (pa_cons (pv 7) (pa_cons (pv 8) pa_nil)))))) pa_nil)) (pv 6) (nomark _))))) (pss_one (ps_ret pe_bl)) pss_nil)))))))))) pss_nil)))))
      (pss_one (ps_ret pe_bl)), ?_⟩
    have hb : ∀ j : Int, 0 ≤ (if (if j > 1 then j else 1) < 8 then (if j > 1 then j else 1) else 8) ∧ (if (if j > 1 then j else 1) < 8 then (if j > 1 then j else 1) else 8) ≤ 8 := fun j => by split <;> split <;> omega
    refine ⟨_, rfl, l, _, rfl, .inl hs, _, _, rfl, rfl, ⟨by omega, by omega⟩, _, _, rfl, _, _, rfl, _, rfl, Int.le_trans (by decide) (hb _).1, Int.lt_of_le_of_lt (hb _).2 (by decide), ?_⟩
    obtain ⟨m, hm, hm8⟩ : ∃ m : Nat, m = (if (if (((ns.map V.int).length : Nat) : Int) / 4 > 1 then (((ns.map V.int).length : Nat) : Int) / 4 else 1) < 8 then (if (((ns.map V.int).length : Nat) : Int) / 4 > 1 then (((ns.map V.int).length : Nat) : Int) / 4 else 1) else 8).toNat ∧ m ≤ 8 := ⟨_, rfl, by have := (hb ((((ns.map V.int).length : Nat) : Int) / 4)).2; omega⟩
    rw [← hm]
    refine for_range (lo := 0) (n := m) (lawInv T l H) ⟨⟨_, _, _, _, _, _, _, _, _, _, _, _, rfl⟩, SameB.refl T H, tab⟩ (fun i σ' H' hi p' => ?_) fun σ' H' p' => q H'
    obtain ⟨⟨x1, x2, x3, x4, x5, x6, x7, x8, x9, x10, x11, x12, rfl⟩, sb, tb⟩ := p'
    have hs0 := sql_sameB hs sb tab
    -- the tree
    refine ⟨_, rfl, _, rfl, _, _, rfl, rfl, .inl ⟨by omega, by omega⟩, l, ns, 4 * (0 + (i : Int)), rfl, hs0, by omega, by omega, fun H1 t N E σ s1 hT ar hN srt => ?_⟩
    have n12 := ar.n12
    -- the loads
    refine ⟨_, rfl, _, rfl, _, _, rfl, rfl, .inl ⟨by omega, by omega⟩, _, _, rfl, rfl, _, rfl, l, ns, 4 * (0 + (i : Int)) + 1, .ref t, N, E, rfl, sql_same hs0 s1, by omega, by omega, hT, n12, hN, ar.G.nd, srt, fun H2 p a b F S s2 hp lf ls dF dS => ?_⟩
    refine ⟨p, _, rfl, SqT.of hp, rfl, _, _, rfl, _, _, rfl, rfl, ?_⟩
    have lF := dF.len
    have lS := dS.len
    refine ⟨_, rfl, .ref a, F, rfl, lf, by omega, fun H3 s3 => ⟨_, rfl, .ref b, S, rfl, ls.same s3, by omega, fun H4 s4 => ⟨rfl, _, rfl, ?_⟩⟩⟩
    have sA := ((s1.trans s2).trans s3).trans s4
    have sb4 := sb.trans (SameB.of sA)
    have tb4 := TabG.same tb sA
    refine ite2 (fun h => ?_) (fun h => ?_)
    · have heq : sm F (fun q => q.2) = sm S fun q => q.2 := int_dec.mp h
      have ld := dF.ok dS n12 heq
      have sx := s2.trans (s3.trans s4)
      have hT4 := hT.stay (same_tstay sx)
      have lf4 := lf.same (s3.trans s4)
      have ls4 := ls.same (s3.trans s4)
      clear hp s1 s2 s3 s4 sA sx hT lf ls
      -- plan
      refine ⟨_, rfl, _, rfl, _, rfl, .ref t, .ref a, .ref b, N, E, σ, F, S, rfl, hT4, ar, lf4, ls4, ld, tb4, fun H5 mp M xs s5 tb5 _ hmv pmv mvok Ml => ?_⟩
      have sb5 := sb4.trans s5
      have hT5 := hT4.stay (s5.tstay tb4)
      have lf5 := lf4.sameB s5 tb4
      have ls5 := ls4.sameB s5 tb4
      have mv5 : MovesAt H5 (.ref mp) M := ⟨mp, xs, rfl, hmv, pmv⟩
      -- cost
      refine ⟨_, rfl, _, rfl, _, rfl, .ref t, .ref a, .ref b, N, E, σ, F, S, rfl, hT5, ar, lf5, ls5, ld, fun H6 s6 => ?_⟩
      have mem : ∀ p ∈ M, p.1 ∈ names N ∧ p.2.1 ∈ names N := fun p hp => ⟨(mvok.mem p hp).1, (mvok.mem p hp).2.1⟩
      -- moved
      refine ⟨_, rfl, _, rfl, .ref a, .ref mp, N, F, M, rfl, lf5.same s6, mv5.same s6, n12, dF.nd, dF.sub, mem, fun H7 rp R s7 lR srtR nR hR1 hR2 => ⟨_, rfl, S, ?_, ls5.same (s6.trans s7), _, rfl, ?_⟩⟩
      · rw [moved_eq dF dS mvok srtR nR hR1 hR2] at lR
        exact lR
      have s57 := s6.trans s7
      refine ⟨_, rfl, _, rfl, _, rfl, .ref t, .ref b, .ref a, N, E, σ, S, F, rfl, hT5.stay (same_tstay s57), ar, ls5.same s57, lf5.same s57, ld.swap, fun H8 s8 => ⟨_, rfl, rfl, _, rfl, ?_⟩⟩
      refine iteNS (by rw [cost_swap]) ?_
      have s58 := s57.trans s8
      have hT8 := hT5.stay (same_tstay s58)
      -- the moves' pay
      refine seq_if (test_sum (rd_dist (i := 5) (a := 7) (b := 8) (c := 13) (t := 2) rfl (mv5.same s58) Ml hT8 ar mem (fun _ _ _ => rfl) (fun _ _ _ => rfl) (fun _ _ _ => rfl) (fun _ _ _ => rfl) (fun _ _ _ => rfl) fun H9 D9 s9 _ hD9 => ⟨D9, _, rfl, SqL.of hD9, _, rfl, rfl, _, rfl, ?_⟩))
      refine iteNS (congrArg V.int (mv_pay mvok)) ?_
      have s59 := s58.trans s9
      -- prices
      refine ⟨_, rfl, _, rfl, _, rfl, .ref t, .ref a, .ref b, N, E, σ, F, S, rfl, hT5.stay (same_tstay s59), ar, lf5.same s59, ls5.same s59, ld, hN, fun H10 pp zs c s10 lp znd zmem => ⟨_, _, rfl, lp, ?_, fun d nd => ?_⟩⟩
      · rw [List.map_map]; exact (List.map_id zs).symm ▸ znd
      have s10' := s59.trans s10
      obtain ⟨pr, hpr⟩ : ∃ pr : Str → Int, pr = fun z => priceOf E σ (fo N σ F S) z - c := ⟨_, rfl⟩
      have hd11 : upd H10 d (.dK (dI ((zs.map fun z => (z, priceOf E σ (fo N σ F S) z - c)).map (·.1)) (val (zs.map fun z => (z, priceOf E σ (fo N σ F S) z - c))))) d = some (.dK (dI zs pr)) := by
        have ez : (zs.map fun z => (z, priceOf E σ (fo N σ F S) z - c)).map (·.1) = zs := by rw [List.map_map]; exact List.map_id zs
        rw [upd_same, ez]
        refine congrArg (fun z => some (HO.dK z)) (dV_congr fun x hx => ?_)
        show V.int _ = V.int (pr x)
        rw [hpr, val_mem (by rw [ez]; exact znd) (List.mem_map.mpr ⟨x, hx, rfl⟩)]
      have s11 := s10'.trans (same_new (o := .dK (dI ((zs.map fun z => (z, priceOf E σ (fo N σ F S) z - c)).map (·.1)) (val (zs.map fun z => (z, priceOf E σ (fo N σ F S) z - c))))) nd)
      generalize upd H10 d (.dK (dI ((zs.map fun z => (z, priceOf E σ (fo N σ F S) z - c)).map (·.1)) (val (zs.map fun z => (z, priceOf E σ (fo N σ F S) z - c))))) = H11 at *
      have hT11 := hT5.stay (same_tstay s11)
      obtain ⟨ta, tn, te, tns, tes, et, t1, t2, t3, t4, t5⟩ := id hT11
      have gp : ∀ {x : Str}, x ∈ names N → DGet H11 d (.str x) (some (.int (pr x))) := fun {x} hx => by
        have := DGet.k (k := Sum.inr x) hd11; rw [dV_get ((zmem x).mpr hx)] at this; exact this
      -- the edges
      refine ⟨_, rfl, ta, _, 1, .ref te, et, rfl, SqT.of t1, at_of (j := 1) rfl rfl, te, rfl, ⟨tes, SqT.of t3⟩, ?_⟩
      refine for_tup (K := K) (a := te) (xs := tes) (fun j σ' H' => (∃ x7 x8 x10 : Option V, σ' = [some (.ref l), some (.int (0 + (i : Int))), some (.ref t), some (.ref a), some (.ref b), some (.ref mp), some (.int (sm E fun e => e.2.2 * ab (fo N σ F S e))), x7, x8, some (.ref d), x10, x11, x12, none, none]) ∧ H' = H11) ⟨⟨_, _, _, rfl⟩, rfl⟩
        (fun j σ' H' _ p' => by rw [p'.2]; exact SqT.of t3) (fun j x σ' H' hj p' => ?_) fun σ' H' p' => ?_
      · obtain ⟨⟨x7, x8, x10, rfl⟩, rfl⟩ := p'
        obtain ⟨⟨x, y, n⟩, hE', bb, rfl, hbb⟩ := paired_at t5 hj
        have heE := List.mem_of_getElem? hE'
        obtain ⟨hxN, hyN⟩ := ar.G.mem _ heE
        have pl := price_le (N := N) ar.G (fo N σ F S) heE
        have px : pr x - pr y ≤ n ∧ pr y - pr x ≤ n := by
          rw [hpr]
          have p1 : priceOf E σ (fo N σ F S) x - priceOf E σ (fo N σ F S) y ≤ n := pl.1
          have p2 : priceOf E σ (fo N σ F S) y - priceOf E σ (fo N σ F S) x ≤ n := pl.2
          constructor
          · show _ - c - (_ - c) ≤ n
            omega
          · show _ - c - (_ - c) ≤ n
            omega
        refine ⟨bb, _, rfl, SqT.of hbb, rfl, _, _, rfl, _, _, rfl, _, _, rfl, rfl, ?_⟩
        refine ⟨_, rfl, _, rfl, d, .int (pr x), rfl, gp hxN, _, rfl, _, rfl, d, .int (pr y), rfl, gp hyN, _, _, rfl, rfl, _, rfl, _, _, rfl, rfl, _, rfl, ?_⟩
        refine ite2 (fun h => absurd (show n < pr x - pr y from of_decide_eq_true h) (by omega)) (fun _ => ?_)
        refine ⟨_, rfl, _, rfl, d, .int (pr y), rfl, gp hyN, _, rfl, _, rfl, d, .int (pr x), rfl, gp hxN, _, _, rfl, rfl, _, rfl, _, _, rfl, rfl, _, rfl, ?_⟩
        refine ite2 (fun h => absurd (show n < pr y - pr x from of_decide_eq_true h) (by omega)) (fun _ => ?_)
        exact ⟨⟨_, _, _, rfl⟩, rfl⟩
      · obtain ⟨⟨x7, x8, x10, rfl⟩, rfl⟩ := p'
        have lf11 := lf5.same s11
        have ls11 := ls5.same s11
        -- gain
        refine seq_asg (op_sum2 (rd_worth (i := 3) (a := 14) (b := 13) (p := 9) rfl lf11 (by omega) ld.fb hd11 (fun q hq => (zmem _).mpr (dF.sub q hq)) (fun _ _ => rfl) (fun _ _ => rfl) (fun _ _ => rfl) (fun _ _ => rfl) fun H12 D1 s12 _ h1 => ⟨D1, _, rfl, SqL.of h1,
          rd_worth (i := 4) (a := 14) (b := 13) (p := 9) rfl (ls11.same s12) (by omega) ld.sb (s12 _ _ hd11) (fun q hq => (zmem _).mpr (dS.sub q hq)) (fun _ _ => rfl) (fun _ _ => rfl) (fun _ _ => rfl) (fun _ _ => rfl) fun H13 D2 s13 _ h2 => ⟨D2, _, rfl, SqL.of h2, _, _, rfl, rfl, ?_⟩⟩))
        have eg : (F.map fun q => pr q.1 * q.2).sum - (S.map fun q => pr q.1 * q.2).sum = sm E fun e => e.2.2 * ab (fo N σ F S e) := by
          rw [← gain_eq ar.G ld c, hpr]; rfl
        have s5e := (s11.trans s12).trans s13
        have sb13 := sb5.trans (SameB.of s5e)
        have tb13 := TabG.same tb5 s5e
        -- the others
        refine ⟨_, rfl, _, rfl, _, _, rfl, rfl, .inl ⟨by omega, by omega⟩, _, _, rfl, rfl, _, rfl, _, rfl, l, ns, 4 * (0 + (i : Int)) + 3, .ref a, .ref b, N, F, S, rfl, sql_sameB hs sb13 tab, by omega, by omega, lf5.same s5e, ls5.same s5e, n12, dF, dS, heq, fun H14 op M2 s14 mv14 mem2 eq2 M24 => ?_⟩
        have s514 := s5e.trans s14
        refine ⟨_, rfl, _, rfl, rfl, _, rfl, ?_⟩
        refine iteNS (congrArg V.int eg) ?_
        refine test_sum (rd_dist (i := 12) (a := 7) (b := 8) (c := 13) (t := 2) rfl mv14 (by omega) (hT5.stay (same_tstay s514)) ar (fun p hp => ⟨(mem2 p hp).1, (mem2 p hp).2.1⟩) (fun _ _ _ => rfl) (fun _ _ _ => rfl) (fun _ _ _ => rfl) (fun _ _ _ => rfl) (fun _ _ _ => rfl) fun H15 D15 s15 _ hD15 => ⟨D15, _, rfl, SqL.of hD15, _, rfl, _, _, rfl, rfl, _, rfl, ?_⟩)
        have du := Good.dual (ns := names N) ar.G M2 mem2 (m := mo F S) fun v _ => eq2 v
        refine ite2 (fun h => absurd (of_decide_eq_true h) (Int.not_lt.mpr du)) (fun _ => ?_)
        have s515 := s514.trans s15
        exact ⟨⟨_, _, _, _, _, _, _, _, _, _, _, _, rfl⟩, sb5.trans (SameB.of s515), TabG.same tb5 s515⟩
    · exact ⟨⟨_, _, _, _, _, _, _, _, _, _, _, _, rfl⟩, sb4, tb4⟩
end
end K59

set_option Elab.async false
set_option linter.all false
set_option maxRecDepth 100000
set_option maxHeartbeats 4000000
namespace K59
open PySem PySem.Spec PyProof.Rows L2 GxR
/-- what the top has written: def i of the program stands at fi, under its name -/
structure At (K : PySem.W.Frag) (x : Str) (st : Stmt) (f : Addr) (cd : Value) (fd : FuncData) : Prop where
  n : PySem.W.nsIn K mainGlobals x = some (some (.ref f))
  l : ∃ (oc : Value) (od : Option Addr) (kV doc pm : Value) (an : Option Addr) (ct : Value) (osl : Array (Option Value)), fd = PySem.W.fnOf x x (defArgs st) (defBody st) (defScope st) .none kV doc pm an cd ct ∧ K.lookup f = some ⟨oc, od, .func fd, osl⟩
  c : PySem.W.codeIn K cd x = true
  k : PySem.W.keepIn K (.ref f) = true
theorem at_mk {K : PySem.W.Frag} {x : Str} {st : Stmt} {f : Addr} {oc : Value} {od an : Option Addr} {osl : Array (Option Value)} {kV doc pm cd ct : Value} (n : PySem.W.nsIn K mainGlobals x = some (some (.ref f)))
    (l : K.lookup f = some ⟨oc, od, .func (PySem.W.fnOf x x (defArgs st) (defBody st) (defScope st) .none kV doc pm an cd ct), osl⟩) (c : PySem.W.codeIn K cd x = true) (k : PySem.W.keepIn K (.ref f) = true) :
    At K x st f cd (PySem.W.fnOf x x (defArgs st) (defBody st) (defScope st) .none kV doc pm an cd ct) := ⟨n, ⟨_, _, _, _, _, _, _, _, rfl, l⟩, c, k⟩
theorem At.fn {K : PySem.W.Frag} {x : Str} {st : Stmt} {f : Addr} {cd : Value} {fd : FuncData} (h : At K x st f cd fd) : Fun K x x st f fd := by
  obtain ⟨oc, od, kV, doc, pm, an, ct, osl, rfl, l⟩ := h.l
  exact fun_mk l h.c h.k
theorem At.fnC {K : PySem.W.Frag} {x : Str} {st : Stmt} {f c : Addr} {fd : FuncData} (h : At K x st f (.ref c) fd) : FunC K x x st f fd c := by
  obtain ⟨oc, od, kV, doc, pm, an, ct, osl, rfl, l⟩ := h.l
  exact ⟨oc, od, kV, doc, pm, an, ct, osl, rfl, l, h.c⟩
theorem At.cal {K : PySem.W.Frag} {mg : Str → Option Value} {h : Heap} (X : K.In h) (G : h.Ns mainGlobals mg) {x : Str} {st : Stmt} {f : Addr} {cd : Value} {fd : FuncData} {ps : List Str} (a : At K x st f cd fd)
    (b : ∀ (kV doc pm : Value) (an : Option Addr) (cdv ct : Value) (us : List Value), us.length = ps.length → bindArgs (PySem.W.fnOf x x (defArgs st) (defBody st) (defScope st) .none kV doc pm an cdv ct) ⟨us, []⟩ = pure (ps.zip us)) : Cal K mg x f fd ps :=
  ⟨PySem.W.mg_of X G a.n, a.k, a.fn.binds b⟩
theorem tab_mk {K : PySem.W.Frag} {st : Stmt} {f c P : Addr} {fd : FuncData} {te : Value} {td : Option Addr} {tv : Array Value} {ts : Array (Option Value)} (a : At K "plan" st f (.ref c) fd) (lc : K.lookup c = some ⟨te, td, .fields tv, ts⟩) (t11 : tv[11]? = some (.ref P)) : PySem.W.tabIn K "plan" = some (c, P) := by
  obtain ⟨oc, od, kV, doc, pm, an, ct, osl, rfl, l⟩ := a.l
  unfold PySem.W.tabIn
  rw [a.n]
  simp only [l]
  show (match K.lookup c with
    | some ⟨_, _, .fields vs, _⟩ => (match (vs[11]? : Option Value) with | some (.ref P) => some (c, P) | _ => none)
    | _ => none) = _
  rw [lc]
  simp only [t11]

theorem all_law {l : PySem.W.OpenLaw} {w : World} {K : PySem.W.Frag} {h : Heap} {mg : Str → Option Value} {fa c P f1 f2 f3 f4 f5 f6 f7 f8 f9 f10 f11 f12 f13 f14 f15 f16 f17 f18 f19 f20 f21 : Addr} {c1 c2 c3 c4 c5 c6 c7 c8 c9 c10 c12 c13 c14 c15 c16 c17 c18 c19 c20 c21 : Value} {d1 d2 d3 d4 d5 d6 d7 d8 d9 d10 d11 d12 d13 d14 d15 d16 d17 d18 d19 d20 d21 : FuncData} (X : K.In h) (G : h.Ns mainGlobals mg) (hfa : mg "law" = some (.ref fa))
    (A1 : At K "names_of" sNames f1 c1 d1) (A2 : At K "neighbors" sNeigh f2 c2 d2) (A3 : At K "path" sPath f3 c3 d3) (A4 : At K "length_between" sLenB f4 c4 d4) (A5 : At K "distance" sDist f5 c5 d5) (A6 : At K "sides" sSides f6 c6 d6) (A7 : At K "excess_of" sExc f7 c7 d7) (A8 : At K "flow" sFlow f8 c8 d8) (A9 : At K "cost" sCost f9 c9 d9) (A10 : At K "way_of" sWay f10 c10 d10) (A12 : At K "prices" sPrices f12 c12 d12) (A13 : At K "_law_cell" sCell f13 c13 d13) (A14 : At K "_law_draw" sDraw f14 c14 d14) (A15 : At K "_law_tree" sTree f15 c15 d15) (A16 : At K "_law_names" sLNames f16 c16 d16) (A17 : At K "_law_loads" sLoads f17 c17 d17) (A18 : At K "_law_sum" sSum f18 c18 d18) (A19 : At K "_law_moved" sMoved f19 c19 d19) (A20 : At K "_law_other" sOther f20 c20 d20) (A21 : At K "law" sLaw f21 c21 d21) (A11 : At K "plan" sPlan f11 (.ref c) d11)
    (z0 : PySem.W.nsIn K mainGlobals "sorted" = some none) (z1 : PySem.W.nsIn K mainGlobals "len" = some none) (z2 : PySem.W.nsIn K mainGlobals "sum" = some none) (z3 : PySem.W.nsIn K mainGlobals "min" = some none) (z4 : PySem.W.nsIn K mainGlobals "max" = some none) (z5 : PySem.W.nsIn K mainGlobals "any" = some none) (z6 : PySem.W.nsIn K mainGlobals "range" = some none) (z7 : PySem.W.nsIn K mainGlobals "dict" = some none) (z8 : PySem.W.nsIn K mainGlobals "tuple" = some none) {te : Value} {td : Option Addr} {tv : Array Value} {ts : Array (Option Value)} (lc : K.lookup c = some ⟨te, td, .fields tv, ts⟩) (t11 : tv[11]? = some (.ref P)) (nP : K.lookup P = none)
    (tab : ∀ c P, PySem.W.tabIn K "plan" = some (c, P) → PySem.W.CodeHd h c P ∧ h.get? P = some (PySem.W.tabObj #[])) :
    LamX.LawAtS l w K CX0 6 63 "_law_script" mg fa h := by
  have e := hfa.symm.trans (PySem.W.mg_of X G A21.n)
  cases e
  have hT : PySem.W.CodeHd h c P ∧ h.get? P = some (PySem.W.tabObj #[]) := tab c P (tab_mk A11 lc t11)
  have bl : Blt mg := ⟨PySem.W.mg_none_of X G z0, PySem.W.mg_none_of X G z1, PySem.W.mg_none_of X G z2, PySem.W.mg_none_of X G z3, PySem.W.mg_none_of X G z4, PySem.W.mg_none_of X G z5, PySem.W.mg_none_of X G z6, PySem.W.mg_none_of X G z7, PySem.W.mg_none_of X G z8⟩
  have b1 := A1.cal (ps := ["some_tree"]) X G fun _ _ _ _ _ _ us hl => match us, hl with | [_], _ => rfl
  have b2 := A2.cal (ps := ["some_tree", "name"]) X G fun _ _ _ _ _ _ us hl => match us, hl with | [_, _], _ => rfl
  have b3 := A3.cal (ps := ["some_tree", "first", "second"]) X G fun _ _ _ _ _ _ us hl => match us, hl with | [_, _, _], _ => rfl
  have b4 := A4.cal (ps := ["some_tree", "first", "second"]) X G fun _ _ _ _ _ _ us hl => match us, hl with | [_, _, _], _ => rfl
  have b5 := A5.cal (ps := ["some_tree", "first", "second"]) X G fun _ _ _ _ _ _ us hl => match us, hl with | [_, _, _], _ => rfl
  have b6 := A6.cal (ps := ["some_tree", "first", "second"]) X G fun _ _ _ _ _ _ us hl => match us, hl with | [_, _, _], _ => rfl
  have b7 := A7.cal (ps := ["some_tree", "first", "second"]) X G fun _ _ _ _ _ _ us hl => match us, hl with | [_, _, _], _ => rfl
  have b8 := A8.cal (ps := ["some_tree", "first", "second"]) X G fun _ _ _ _ _ _ us hl => match us, hl with | [_, _, _], _ => rfl
  have b9 := A9.cal (ps := ["some_tree", "first", "second"]) X G fun _ _ _ _ _ _ us hl => match us, hl with | [_, _, _], _ => rfl
  have b10 := A10.cal (ps := ["left", "more", "start"]) X G fun _ _ _ _ _ _ us hl => match us, hl with | [_, _, _], _ => rfl
  have b11 := A11.cal (ps := ["some_tree", "first", "second"]) X G fun _ _ _ _ _ _ us hl => match us, hl with | [_, _, _], _ => rfl
  have b12 := A12.cal (ps := ["some_tree", "first", "second"]) X G fun _ _ _ _ _ _ us hl => match us, hl with | [_, _, _], _ => rfl
  have b13 := A13.cal (ps := ["_law_script", "_law_k"]) X G fun _ _ _ _ _ _ us hl => match us, hl with | [_, _], _ => rfl
  have b14 := A14.cal (ps := ["_law_script", "_law_k", "_law_sizes"]) X G fun _ _ _ _ _ _ us hl => match us, hl with | [_, _, _], _ => rfl
  have b15 := A15.cal (ps := ["_law_script", "_law_k", "_law_most"]) X G fun _ _ _ _ _ _ us hl => match us, hl with | [_, _, _], _ => rfl
  have b16 := A16.cal (ps := ["_law_tree_here"]) X G fun _ _ _ _ _ _ us hl => match us, hl with | [_], _ => rfl
  have b17 := A17.cal (ps := ["_law_script", "_law_k", "_law_tree_here"]) X G fun _ _ _ _ _ _ us hl => match us, hl with | [_, _, _], _ => rfl
  have b18 := A18.cal (ps := ["_law_load"]) X G fun _ _ _ _ _ _ us hl => match us, hl with | [_], _ => rfl
  have b19 := A19.cal (ps := ["_law_load", "_law_moves"]) X G fun _ _ _ _ _ _ us hl => match us, hl with | [_, _], _ => rfl
  have b20 := A20.cal (ps := ["_law_script", "_law_k", "_law_first", "_law_second"]) X G fun _ _ _ _ _ _ us hl => match us, hl with | [_, _, _, _], _ => rfl
  obtain ⟨oc, od, kV, doc, pm, an, ct, osl, ed, lk⟩ := A21.l
  refine ⟨d21, [(c, P)], spLaw K P, fun p hp => ?_, fun p hp => ?_, fun p hp => ?_, fun s u => ?_, fun H a ns _ _ hH hS => ?_, fun base hb hn hTB => ?_⟩
  · rw [List.mem_singleton.mp hp]; exact hT.2
  · rw [List.mem_singleton.mp hp]; exact nP
  · rw [List.mem_singleton.mp hp]; exact hT.1
  · rw [ed]; exact .of_eq rfl
  · exact ⟨a, ns, rfl, hS, ⟨#[], hH _ List.mem_cons_self, trivial⟩, fun _ => rfl⟩
  · have TB : GxR.TabB base mg c P := let t := hTB _ List.mem_cons_self; ⟨t.code, t.bm, t.gP⟩
    have g1 : FnOk l.prog w K mg base CX0 1 f1 d1 ["some_tree"] spNames := ok_names A1.fn
    have g2 : FnOk l.prog w K mg base CX0 1 f2 d2 ["some_tree", "name"] spNeigh := ok_neigh A2.fn bl
    have g3 : FnOk l.prog w K mg base CX0 2 f3 d3 ["some_tree", "first", "second"] spPath := ok_path A3.fn g2 b2
    have g4 : FnOk l.prog w K mg base CX0 2 f4 d4 ["some_tree", "first", "second"] spLenB := ok_lenB A4.fn g2 b2
    have g5 : FnOk l.prog w K mg base CX0 3 f5 d5 ["some_tree", "first", "second"] spDist := ok_dist A5.fn bl g3 b3 g4 b4
    have g6 : FnOk l.prog w K mg base CX0 3 f6 d6 ["some_tree", "first", "second"] spSides := ok_sides A6.fn g3 b3 g1 b1
    have g7 : FnOk l.prog w K mg base CX0 1 f7 d7 ["some_tree", "first", "second"] spExc := ok_exc A7.fn bl
    have g8 : FnOk l.prog w K mg base CX0 4 f8 d8 ["some_tree", "first", "second"] spFlow := ok_flow A8.fn bl g7 b7 g6 b6
    have g9 : FnOk l.prog w K mg base CX0 5 f9 d9 ["some_tree", "first", "second"] spCost := ok_cost A9.fn g8 b8 g5 b5
    have g10 : FnOk l.prog w K mg base CX0 1 f10 d10 ["left", "more", "start"] spWay := ok_way A10.fn bl
    have g11 : FnOk l.prog w K mg base CX0 5 f11 d11 ["some_tree", "first", "second"] (spPlan P) := ok_plan A11.fnC bl TB g7 b7 g8 b8 g10 b10
    have g12 : FnOk l.prog w K mg base CX0 5 f12 d12 ["some_tree", "first", "second"] spPrices := ok_prices A12.fn bl g8 b8 g2 b2
    have g13 : FnOk l.prog w K mg base CX0 1 f13 d13 ["_law_script", "_law_k"] (spCell' K) := ok_cell' A13.fn bl
    have g14 : FnOk l.prog w K mg base CX0 2 f14 d14 ["_law_script", "_law_k", "_law_sizes"] (spDraw K) := ok_draw A14.fn bl g13 b13
    have g15 : FnOk l.prog w K mg base CX0 3 f15 d15 ["_law_script", "_law_k", "_law_most"] (spTree K) := ok_tree A15.fn bl g14 b14
    have g16 : FnOk l.prog w K mg base CX0 1 f16 d16 ["_law_tree_here"] spNames := ok_lnames A16.fn
    have g17 : FnOk l.prog w K mg base CX0 3 f17 d17 ["_law_script", "_law_k", "_law_tree_here"] (spLoads K) := ok_loads A17.fn bl g14 b14 g16 b16
    have g18 : FnOk l.prog w K mg base CX0 1 f18 d18 ["_law_load"] spSum := ok_sum A18.fn bl
    have g19 : FnOk l.prog w K mg base CX0 1 f19 d19 ["_law_load", "_law_moves"] spMoved := ok_moved A19.fn bl
    have g20 : FnOk l.prog w K mg base CX0 3 f20 d20 ["_law_script", "_law_k", "_law_first", "_law_second"] (spOther K) := ok_other A20.fn bl g14 b14
    exact ok_law A21.fn bl g15 b15 g17 b17 g18 b18 g11 b11 g9 b9 g19 b19 g5 b5 g12 b12 g20 b20
/-- the end: the table of plan's code object is empty at the start -/
theorem walk_plan {l : PySem.W.OpenLaw} {q : Program} {loose : List Str} {XP : (Str → Option Value) → Heap → Prop} {YP : World → Heap → Prop} {d : DefRec} {K : Params → PySem.W.Frag}
    (hn : l.most = some 63) (hdf : d.params.defaults = []) (hp : ((recsOf q).find? fun e => e.name == ("plan" : Str)).isSome = true) (hY : ∀ (w : World) (h : Heap), YP w h → (K w.params).In h)
    (F : ∀ (w : World) (mg : Str → Option Value) (fa : Addr) (h : Heap), (K w.params).In h → h.Ns mainGlobals mg → mg d.name = some (.ref fa) →
      (∀ c P, PySem.W.tabIn (K w.params) "plan" = some (c, P) → PySem.W.CodeHd h c P ∧ h.get? P = some (PySem.W.tabObj #[])) → LamX.LawAtS l w (K w.params) CX0 6 63 "_law_script" mg fa h) :
    PySem.W.WalkO q loose XP YP l.row.toRowW d [] (fun f vs => PySem.call f vs) := by
  refine Att.attach_callB hn hdf fun w s₀ s₁ mg mb fa o pm cd doc a vs ns G Y ho hd hcd hmg hobj hints hlen hbits hg => ?_
  have KX := hY w _ Y
  obtain ⟨dP, hdP⟩ := Option.isSome_iff_exists.mp hp
  obtain ⟨fd, cs, sp, hT, nT, C, hb, hsp, hF⟩ := F w mg fa _ KX G.T.g hmg fun c P ht => PySem.W.tab_of G.T KX hdP ht
  exact LamX.law_callTs KX G.T.g G.T.b G.T.builtins G.T.nolimit hg hT nT C G.T.bmain hobj hints (Nat.le_trans hlen (by decide)) ⟨rfl, by decide, by decide⟩ hF hb (fun H hH hS => hsp H a ns hlen hbits hH hS) fun H e s' z => z
end K59

set_option Elab.async false
set_option linter.all false
open PySem PySem.W PyProof.Rows in
set_option maxRecDepth 100000 in
set_option maxHeartbeats 0 in
theorem PySem.Challenge.cw_treeserved_k59_whole_nothing_moves_for_l_holds : PySem.Challenge.rw_treeserved_k59_whole_nothing_moves_for_l.Holds := by
  w_on; o_law; k_head; (case hw => w_witness2)
  k_fill
  refine K59.walk_plan (l := PySem.Challenge.rw_treeserved_k59_whole_nothing_moves_for_l) rfl rfl ?hp (fun w h Y => PySem.W.kIn_of Y) ?F
  case hp => decide +kernel
  case F =>
    intro w mg fa h KX G hmg hT
    refine' K59.all_law KX G hmg (K59.at_mk ?n1 ?l1 ?c1 ?k1) (K59.at_mk ?n2 ?l2 ?c2 ?k2) (K59.at_mk ?n3 ?l3 ?c3 ?k3) (K59.at_mk ?n4 ?l4 ?c4 ?k4) (K59.at_mk ?n5 ?l5 ?c5 ?k5) (K59.at_mk ?n6 ?l6 ?c6 ?k6) (K59.at_mk ?n7 ?l7 ?c7 ?k7) (K59.at_mk ?n8 ?l8 ?c8 ?k8) (K59.at_mk ?n9 ?l9 ?c9 ?k9) (K59.at_mk ?n10 ?l10 ?c10 ?k10) (K59.at_mk ?n12 ?l12 ?c12 ?k12) (K59.at_mk ?n13 ?l13 ?c13 ?k13) (K59.at_mk ?n14 ?l14 ?c14 ?k14) (K59.at_mk ?n15 ?l15 ?c15 ?k15) (K59.at_mk ?n16 ?l16 ?c16 ?k16) (K59.at_mk ?n17 ?l17 ?c17 ?k17) (K59.at_mk ?n18 ?l18 ?c18 ?k18) (K59.at_mk ?n19 ?l19 ?c19 ?k19) (K59.at_mk ?n20 ?l20 ?c20 ?k20) (K59.at_mk ?n21 ?l21 ?c21 ?k21) (K59.at_mk ?n11 ?l11 ?c11 ?k11) ?z0 ?z1 ?z2 ?z3 ?z4 ?z5 ?z6 ?z7 ?z8 ?lc ?t11 ?nP hT
    (case n1 => k_is)
    (case l1 => k_is)
    (case c1 => k_is)
    (case k1 => k_is)
    (case n2 => k_is)
    (case l2 => k_is)
    (case c2 => k_is)
    (case k2 => k_is)
    (case n3 => k_is)
    (case l3 => k_is)
    (case c3 => k_is)
    (case k3 => k_is)
    (case n4 => k_is)
    (case l4 => k_is)
    (case c4 => k_is)
    (case k4 => k_is)
    (case n5 => k_is)
    (case l5 => k_is)
    (case c5 => k_is)
    (case k5 => k_is)
    (case n6 => k_is)
    (case l6 => k_is)
    (case c6 => k_is)
    (case k6 => k_is)
    (case n7 => k_is)
    (case l7 => k_is)
    (case c7 => k_is)
    (case k7 => k_is)
    (case n8 => k_is)
    (case l8 => k_is)
    (case c8 => k_is)
    (case k8 => k_is)
    (case n9 => k_is)
    (case l9 => k_is)
    (case c9 => k_is)
    (case k9 => k_is)
    (case n10 => k_is)
    (case l10 => k_is)
    (case c10 => k_is)
    (case k10 => k_is)
    (case n12 => k_is)
    (case l12 => k_is)
    (case c12 => k_is)
    (case k12 => k_is)
    (case n13 => k_is)
    (case l13 => k_is)
    (case c13 => k_is)
    (case k13 => k_is)
    (case n14 => k_is)
    (case l14 => k_is)
    (case c14 => k_is)
    (case k14 => k_is)
    (case n15 => k_is)
    (case l15 => k_is)
    (case c15 => k_is)
    (case k15 => k_is)
    (case n16 => k_is)
    (case l16 => k_is)
    (case c16 => k_is)
    (case k16 => k_is)
    (case n17 => k_is)
    (case l17 => k_is)
    (case c17 => k_is)
    (case k17 => k_is)
    (case n18 => k_is)
    (case l18 => k_is)
    (case c18 => k_is)
    (case k18 => k_is)
    (case n19 => k_is)
    (case l19 => k_is)
    (case c19 => k_is)
    (case k19 => k_is)
    (case n20 => k_is)
    (case l20 => k_is)
    (case c20 => k_is)
    (case k20 => k_is)
    (case n21 => k_is)
    (case l21 => k_is)
    (case c21 => k_is)
    (case k21 => k_is)
    (case n11 => k_is)
    (case l11 => k_is)
    (case c11 => k_is)
    (case k11 => k_is)
    (case z0 => k_is)
    (case z1 => k_is)
    (case z2 => k_is)
    (case z3 => k_is)
    (case z4 => k_is)
    (case z5 => k_is)
    (case z6 => k_is)
    (case z7 => k_is)
    (case z8 => k_is)
    (case lc => k_is)
    (case t11 => exact rfl)
    (case nP => first | kernel_rfl | exact rfl)
