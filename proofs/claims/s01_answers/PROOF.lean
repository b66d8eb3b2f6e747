import PyProof.Rows.All
import Wide.All
import OpenK.AllK
import Wide.FinOn
import PyProof.EqAt
import PyProof.EqKinds
import PyProof.TupleCall
import Open.SpecLaws
import KE.OsGo
import HandS.ForSpec
import HandS.Comp
import HandS.Iter
import HandS.Walk
import HandS.WideBits
import PySem.Challenge.RW_dikeland_s01_answers
set_option Elab.async false
set_option linter.all false
set_option maxRecDepth 100000
set_option maxHeartbeats 2000000
/-! The mathematics: what the program's loops compute is what the specification says. Plain Lean. -/
namespace Dk
open Si98

structure WF (L : Land) : Prop where
  c1 : 1 ≤ L.count
  c7 : L.count ≤ 7
  n12 : L.dikes.length ≤ 12
  dk : ∀ d, d ∈ L.dikes → d.a < L.count ∧ d.b < L.count ∧ d.high ≤ 100 ∧ d.cost ≤ 1000

theorem wf_init : WF Si98.init := ⟨by decide, by decide, by decide, by intro d h; cases h⟩

/-! ### what is flooded -/
def Edge (L : Land) (h u v : Nat) : Prop := ∃ x, x ∈ L.dikes ∧ x.high < h ∧ ((x.a = u ∧ x.b = v) ∨ (x.b = u ∧ x.a = v))
def spF (L : Land) (h : Nat) (l : List Nat) : List Nat :=
  (List.range L.count).filter fun v => l.contains v || L.dikes.any fun x => decide (x.high < h) && ((x.a == v && l.contains x.b) || (x.b == v && l.contains x.a))
theorem mem_spF {L : Land} {h : Nat} {l : List Nat} {v : Nat} : v ∈ spF L h l ↔ v < L.count ∧ (v ∈ l ∨ ∃ u, u ∈ l ∧ Edge L h u v) := by
  unfold spF Edge
  simp only [List.mem_filter, List.mem_range, Bool.or_eq_true, List.contains_iff_mem, List.any_eq_true, Bool.and_eq_true, decide_eq_true_eq, beq_iff_eq]
  constructor
  · rintro ⟨h1, h2 | ⟨x, hx, hh, h3⟩⟩
    · exact ⟨h1, .inl h2⟩
    · rcases h3 with ⟨e, m⟩ | ⟨e, m⟩
      · exact ⟨h1, .inr ⟨x.b, m, x, hx, hh, .inr ⟨rfl, e⟩⟩⟩
      · exact ⟨h1, .inr ⟨x.a, m, x, hx, hh, .inl ⟨rfl, e⟩⟩⟩
  · rintro ⟨h1, h2 | ⟨u, m, x, hx, hh, h3⟩⟩
    · exact ⟨h1, .inl h2⟩
    · refine ⟨h1, .inr ⟨x, hx, hh, ?_⟩⟩
      rcases h3 with ⟨e1, e2⟩ | ⟨e1, e2⟩
      · exact .inr ⟨e2, by rw [e1]; exact m⟩
      · exact .inl ⟨e2, by rw [e1]; exact m⟩
theorem spread_zero (L : Land) (h : Nat) (l : List Nat) : L.spread h 0 l = l := rfl
theorem spread_succ (L : Land) (h n : Nat) (l : List Nat) : L.spread h (n + 1) l = L.spread h n (spF L h l) := rfl
theorem spread_out (L : Land) (h : Nat) : ∀ (n : Nat) (l : List Nat), L.spread h (n + 1) l = spF L h (L.spread h n l)
  | 0, l => rfl
  | n + 1, l => by
    rw [spread_succ L h (n + 1) l, spread_out L h n (spF L h l), spread_succ L h n l]
/-- a set that is closed holds all that the spreading reaches -/
theorem spread_in {L : Land} {h : Nat} {S : Nat → Prop} (hc : ∀ u v, S u → Edge L h u v → S v) : ∀ (n : Nat) (l : List Nat), (∀ v, v ∈ l → S v) → ∀ v, v ∈ L.spread h n l → S v
  | 0, l, hl, v, hv => hl v hv
  | n + 1, l, hl, v, hv => by
    rw [spread_succ] at hv
    refine spread_in hc n _ (fun w hw => ?_) v hv
    obtain ⟨_, q | ⟨u, m, e⟩⟩ := mem_spF.mp hw
    · exact hl w q
    · exact hc u w (hl u m) e
theorem spread_up {L : Land} {h n : Nat} {l : List Nat} {v : Nat} (hv : v ∈ L.spread h n l) (lt : v < L.count) : v ∈ L.spread h (n + 1) l := by
  rw [spread_out]
  exact mem_spF.mpr ⟨lt, .inl hv⟩
theorem spread_more {L : Land} {h : Nat} {l : List Nat} {v : Nat} (lt : v < L.count) {n m : Nat} (hv : v ∈ L.spread h n l) (le : n ≤ m) : v ∈ L.spread h m l := by
  induction le with
  | refl => exact hv
  | step _ ih => exact spread_up ih lt

/-- what the walk has found so far -/
structure Found (L : Land) (h : Nat) (fs : List Nat) : Prop where
  hd : fs[0]? = some 0
  nd : fs.Nodup
  lt : ∀ v, v ∈ fs → v < L.count
  par : ∀ (i v : Nat), fs[i]? = some v → 0 < i → ∃ j u : Nat, j < i ∧ fs[j]? = some u ∧ Edge L h u v
/-- what lies beside the first so many is found -/
def ClosedTo (L : Land) (h : Nat) (fs : List Nat) (n : Nat) : Prop := ∀ (j u : Nat), j < n → fs[j]? = some u → ∀ v, Edge L h u v → v ∈ fs

theorem found_start {L : Land} {h : Nat} (w : WF L) : Found L h [0] where
  hd := rfl
  nd := by simp
  lt := fun v hv => by
    have := w.c1
    simp at hv
    omega
  par := fun i v e hi => by
    obtain ⟨k, rfl⟩ : ∃ k, i = k + 1 := ⟨i - 1, by omega⟩
    simp at e
theorem found_add {L : Land} {h : Nat} {fs : List Nat} {k u v : Nat} (F : Found L h fs) (hu : fs[k]? = some u) (e : Edge L h u v) (hn : v ∉ fs) (lt : v < L.count) : Found L h (fs ++ [v]) where
  hd := by
    have h0 := F.hd
    rw [List.getElem?_append_left]
    · exact h0
    · cases fs with
      | nil => simp at h0
      | cons => simp
  nd := by
    rw [List.nodup_append]
    refine ⟨F.nd, by simp, ?_⟩
    intro a ha b hb
    simp at hb
    subst hb
    rintro rfl
    exact hn ha
  lt := fun w hw => by
    rw [List.mem_append] at hw
    rcases hw with hw | hw
    · exact F.lt w hw
    · simp at hw
      subst hw
      exact lt
  par := fun i w hi hpos => by
    by_cases c : i < fs.length
    · rw [List.getElem?_append_left c] at hi
      obtain ⟨j, u', hj, hju, ed⟩ := F.par i w hi hpos
      exact ⟨j, u', hj, by rw [List.getElem?_append_left (Nat.lt_trans hj c)]; exact hju, ed⟩
    · rw [List.getElem?_append_right (Nat.le_of_not_lt c)] at hi
      have hk : k < fs.length := (List.getElem?_eq_some_iff.mp hu).1
      have ew : w = v := by
        cases q : i - fs.length with
        | zero => rw [q] at hi; simpa using hi.symm
        | succ z => rw [q] at hi; simp at hi
      subst ew
      exact ⟨k, u, by omega, by rw [List.getElem?_append_left hk]; exact hu, e⟩

/-- pigeonhole -/
theorem nodup_le : ∀ (n : Nat) (l : List Nat), l.Nodup → (∀ v, v ∈ l → v < n) → l.length ≤ n
  | 0, l, _, h => by
    cases l with
    | nil => exact Nat.le_refl _
    | cons a r => exact absurd (h a (List.mem_cons_self)) (Nat.not_lt_zero _)
  | n + 1, l, hn, h => by
    have h2 : (l.erase n).length ≤ n := nodup_le n (l.erase n) (hn.erase n) fun v hv => by
      rw [hn.mem_erase_iff] at hv
      have := h v hv.2
      have := hv.1
      omega
    by_cases c : n ∈ l
    · rw [List.length_erase_of_mem c] at h2
      omega
    · rw [List.erase_of_not_mem c] at h2
      omega
theorem found_len {L : Land} {h : Nat} {fs : List Nat} (F : Found L h fs) : fs.length ≤ L.count := nodup_le _ _ F.nd F.lt

theorem found_spread {L : Land} {h : Nat} {fs : List Nat} (F : Found L h fs) : ∀ (i v : Nat), fs[i]? = some v → v ∈ L.spread h i [0] := by
  intro i
  induction i using Nat.strongRecOn with
  | _ i ih =>
    intro v hv
    cases i with
    | zero =>
      have := F.hd
      rw [this] at hv
      cases hv
      simp [spread_zero]
    | succ i =>
      obtain ⟨j, u, hj, hu, e⟩ := F.par (i + 1) v hv (Nat.succ_pos _)
      have hm : u ∈ L.spread h j [0] := ih j hj u hu
      have hul : u < L.count := F.lt u (List.mem_of_getElem? hu)
      have hvl : v < L.count := F.lt v (List.mem_of_getElem? hv)
      rw [spread_out]
      exact mem_spF.mpr ⟨hvl, .inr ⟨u, spread_more hul hm (by omega), e⟩⟩
theorem flooded_mem {L : Land} {h : Nat} {fs : List Nat} (F : Found L h fs) (C : ClosedTo L h fs fs.length) (v : Nat) : v ∈ L.flooded h ↔ v ∈ fs := by
  constructor
  · intro hv
    refine spread_in (S := fun v => v ∈ fs) (fun u w hu e => ?_) L.count [0] (fun w hw => ?_) v hv
    · obtain ⟨j, hj⟩ := List.mem_iff_getElem?.mp hu
      exact C j u (List.getElem?_eq_some_iff.mp hj).1 hj w e
    · simp at hw
      subst hw
      exact List.mem_of_getElem? F.hd
  · intro hv
    obtain ⟨i, hi⟩ := List.mem_iff_getElem?.mp hv
    have hl := found_len F
    have hi' := (List.getElem?_eq_some_iff.mp hi).1
    exact spread_more (F.lt v hv) (found_spread F i v hi) (by omega)

/-! ### the loops of flooded -/
/-- one look along a dike, from one of its sides -/
def look (hl : Bool) (u side far : Nat) (fs : List Nat) : List Nat := if side = u ∧ hl = true ∧ far ∉ fs then fs ++ [far] else fs
def lookBoth (h u : Nat) (fs : List Nat) (x : Dike) : List Nat := look (decide (x.high < h)) u x.b x.a (look (decide (x.high < h)) u x.a x.b fs)
def sweep (L : Land) (h u k : Nat) (fs : List Nat) : List Nat := (L.dikes.take k).foldl (lookBoth h u) fs

/-- during a sweep: u is at place k; what was there is there -/
structure Swept (L : Land) (h k u : Nat) (fs gs : List Nat) : Prop where
  F : Found L h gs
  pre : ∃ t, gs = fs ++ t
  at_ : gs[k]? = some u
theorem look_swept {L : Land} {h k u : Nat} {fs gs : List Nat} {hl : Bool} {side far : Nat} (S : Swept L h k u fs gs) (e : side = u → hl = true → Edge L h u far) (lt : far < L.count) :
    Swept L h k u fs (look hl u side far gs) ∧ (side = u → hl = true → far ∈ look hl u side far gs) := by
  unfold look
  by_cases c : side = u ∧ hl = true ∧ far ∉ gs
  · rw [if_pos c]
    obtain ⟨t, ht⟩ := S.pre
    refine ⟨⟨found_add S.F S.at_ (e c.1 c.2.1) c.2.2 lt, ⟨t ++ [far], by rw [ht, List.append_assoc]⟩, ?_⟩, fun _ _ => by simp⟩
    rw [List.getElem?_append_left (List.getElem?_eq_some_iff.mp S.at_).1]
    exact S.at_
  · rw [if_neg c]
    refine ⟨S, fun c1 c2 => ?_⟩
    by_cases m : far ∈ gs
    · exact m
    · exact absurd ⟨c1, c2, m⟩ c
theorem look_sub {hl : Bool} {u side far v : Nat} {fs : List Nat} (h : v ∈ fs) : v ∈ look hl u side far fs := by
  unfold look
  split
  · exact List.mem_append_left _ h
  · exact h
theorem lookBoth_swept {L : Land} {h k u : Nat} {fs gs : List Nat} {x : Dike} (w : WF L) (hx : x ∈ L.dikes) (S : Swept L h k u fs gs) :
    Swept L h k u fs (lookBoth h u gs x) ∧ (x.high < h → (x.a = u → x.b ∈ lookBoth h u gs x) ∧ (x.b = u → x.a ∈ lookBoth h u gs x)) := by
  obtain ⟨la, lb, _, _⟩ := w.dk x hx
  obtain ⟨S1, m1⟩ := look_swept (hl := decide (x.high < h)) (side := x.a) (far := x.b) S (fun e1 e2 => ⟨x, hx, of_decide_eq_true e2, .inl ⟨e1, rfl⟩⟩) lb
  obtain ⟨S2, m2⟩ := look_swept (hl := decide (x.high < h)) (side := x.b) (far := x.a) S1 (fun e1 e2 => ⟨x, hx, of_decide_eq_true e2, .inr ⟨e1, rfl⟩⟩) la
  exact ⟨S2, fun hh => ⟨fun e => look_sub (m1 e (decide_eq_true hh)), fun e => m2 e (decide_eq_true hh)⟩⟩
theorem sub_both {h u v : Nat} {fs : List Nat} {x : Dike} (m : v ∈ fs) : v ∈ lookBoth h u fs x := look_sub (look_sub m)
theorem fold_swept {L : Land} {h k u : Nat} {fs : List Nat} (w : WF L) : ∀ (ds : List Dike) (gs : List Nat), (∀ x, x ∈ ds → x ∈ L.dikes) → Swept L h k u fs gs →
    Swept L h k u fs (ds.foldl (lookBoth h u) gs) ∧ (∀ v, v ∈ gs → v ∈ ds.foldl (lookBoth h u) gs) ∧
    ∀ x, x ∈ ds → x.high < h → (x.a = u → x.b ∈ ds.foldl (lookBoth h u) gs) ∧ (x.b = u → x.a ∈ ds.foldl (lookBoth h u) gs)
  | [], gs, _, S => ⟨S, fun _ m => m, fun x hx => by cases hx⟩
  | x :: ds, gs, hm, S => by
    obtain ⟨S1, m1⟩ := lookBoth_swept w (hm x List.mem_cons_self) S
    obtain ⟨S2, sb, m2⟩ := fold_swept w ds (lookBoth h u gs x) (fun y hy => hm y (List.mem_cons_of_mem _ hy)) S1
    refine ⟨S2, fun v hv => sb v (sub_both hv), fun y hy hh => ?_⟩
    rw [List.mem_cons] at hy
    rcases hy with rfl | hy
    · exact ⟨fun e => sb _ ((m1 hh).1 e), fun e => sb _ ((m1 hh).2 e)⟩
    · exact m2 y hy hh
theorem swept_start {L : Land} {h k u : Nat} {fs : List Nat} (F : Found L h fs) (hu : fs[k]? = some u) : Swept L h k u fs fs := ⟨F, ⟨[], by simp⟩, hu⟩
theorem sweep_part {L : Land} {h k u : Nat} {fs : List Nat} (w : WF L) (F : Found L h fs) (hu : fs[k]? = some u) (n : Nat) : Swept L h k u fs (sweep L h u n fs) :=
  (fold_swept w _ _ (fun _ hx => List.mem_of_mem_take hx) (swept_start F hu)).1
theorem sweep_more {L : Land} {h u n : Nat} {fs : List Nat} {x : Dike} (hx : L.dikes[n]? = some x) : sweep L h u (n + 1) fs = lookBoth h u (sweep L h u n fs) x := by
  unfold sweep
  rw [List.take_add_one, hx, List.foldl_append]
  rfl
theorem sweep_zero {L : Land} {h u : Nat} {fs : List Nat} : sweep L h u 0 fs = fs := by
  unfold sweep
  rw [List.take_zero]
  rfl
theorem sweep_all {L : Land} {h k u : Nat} {fs : List Nat} (w : WF L) (F : Found L h fs) (hu : fs[k]? = some u) (C : ClosedTo L h fs k) : Found L h (sweep L h u L.dikes.length fs) ∧ ClosedTo L h (sweep L h u L.dikes.length fs) (k + 1) := by
  have e : L.dikes.take L.dikes.length = L.dikes := List.take_length
  unfold sweep
  rw [e]
  obtain ⟨S, sb, m⟩ := fold_swept w L.dikes fs (fun _ hx => hx) (swept_start (L := L) (h := h) F hu)
  refine ⟨S.F, ?_⟩
  intro j u' hj hu' v ed
  by_cases c : j < k
  · obtain ⟨t, ht⟩ := S.pre
    have hk := (List.getElem?_eq_some_iff.mp hu).1
    rw [ht, List.getElem?_append_left (Nat.lt_trans c hk)] at hu'
    exact sb v (C j u' c hu' v ed)
  · have ej : j = k := by omega
    subst ej
    rw [S.at_] at hu'
    cases hu'
    obtain ⟨x, hx, hh, ⟨e1, e2⟩ | ⟨e1, e2⟩⟩ := ed
    · rw [← e2]
      exact (m x hx hh).1 e1
    · rw [← e2]
      exact (m x hx hh).2 e1

/-! ### floods -/
theorem flooded_rows {L : Land} {h : Nat} (w : WF L) : ∃ p : Nat → Bool, L.flooded h = (List.range L.count).filter p := by
  have hc := w.c1
  obtain ⟨n, hn⟩ : ∃ n, L.count = n + 1 := ⟨L.count - 1, by omega⟩
  unfold Land.flooded
  rw [hn, spread_out]
  unfold spF
  rw [hn]
  exact ⟨_, rfl⟩
theorem flooded_up {L : Land} {h : Nat} (w : WF L) : (L.flooded h).Pairwise (· < ·) := by
  obtain ⟨p, e⟩ := flooded_rows (h := h) w
  rw [e]
  exact (List.pairwise_lt_range).filter p
theorem floods_eq {L : Land} {h : Nat} {fs : List Nat} {ns : List Int} (w : WF L) (F : Found L h fs) (C : ClosedTo L h fs fs.length) (hp : ns.Perm ((fs.drop 1).map fun (n : Nat) => (n : Int))) (hs : ns.Pairwise (· ≤ ·)) :
    ns = Si98.ints ((L.flooded h).filter fun v => v != 0) := by
  have up : ((L.flooded h).filter fun v => v != 0).Pairwise (· < ·) := (flooded_up w).filter _
  have nd1 : ((L.flooded h).filter fun v => v != 0).Nodup := up.imp (fun h => Nat.ne_of_lt h)
  have nd2 : (fs.drop 1).Nodup := F.nd.sublist (List.drop_sublist 1 fs)
  have hd := F.hd
  have hperm : (fs.drop 1).Perm ((L.flooded h).filter fun v => v != 0) := by
    rw [List.perm_ext_iff_of_nodup nd2 nd1]
    intro v
    rw [List.mem_filter, flooded_mem F C]
    cases fs with
    | nil => simp at hd
    | cons a r =>
      have ea : a = 0 := by simpa using hd
      subst ea
      have hnd := (List.nodup_cons.mp F.nd).1
      simp only [List.drop_succ_cons, List.drop_zero, List.mem_cons, bne_iff_ne]
      constructor
      · intro hv
        exact ⟨.inr hv, fun z => hnd (z ▸ hv)⟩
      · rintro ⟨rfl | hv, hne⟩
        · exact absurd rfl hne
        · exact hv
  have hperm2 : ns.Perm (Si98.ints ((L.flooded h).filter fun v => v != 0)) := hp.trans (hperm.map _)
  refine hperm2.eq_of_pairwise (le := (· ≤ ·)) (fun a b _ _ h1 h2 => Int.le_antisymm h1 h2) hs ?_
  unfold Si98.ints
  rw [List.pairwise_map]
  exact up.imp fun hab => by omega

/-! ### dry -/
theorem flooded_zero {L : Land} {v : Nat} (hv : v ≠ 0) : (L.flooded 0).contains v = false := by
  cases q : (L.flooded 0).contains v with
  | false => rfl
  | true =>
    have m : v ∈ L.flooded 0 := List.contains_iff_mem.mp q
    have : v = 0 := spread_in (S := fun v => v = 0) (L := L) (h := 0) (fun u w _ e => by obtain ⟨x, _, hh, _⟩ := e; omega) L.count [0] (fun w hw => by simpa using hw) v m
    exact absurd this hv
/-- the first so many are searched, none is found -/
theorem find_none_upto {p : Nat → Bool} {n : Nat} (h : ∀ i, i < n → p i = false) : (List.range n).find? p = none := by
  rw [List.find?_eq_none]
  intro x hx
  rw [List.mem_range] at hx
  rw [h x hx]
  decide
theorem find_first {p : Nat → Bool} {n k : Nat} (hk : k < n) (h : ∀ i, i < k → p i = false) (hp : p k = true) : (List.range n).find? p = some k := by
  rw [List.find?_range_eq_some]
  refine ⟨hp, List.mem_range.mpr hk, fun j hj => ?_⟩
  rw [h j hj]
  rfl
theorem dry_some {L : Land} {v k : Nat} (hv : v ≠ 0) (hk : k < 101) (h : ∀ i, i < k → (L.flooded (i + 1)).contains v = false) (hp : (L.flooded (k + 1)).contains v = true) : L.dry v = some k := by
  unfold Land.dry
  rw [find_first (p := fun h => (L.flooded h).contains v) (n := MOST + 2) (k := k + 1) (by unfold MOST; omega) (fun i hi => ?_) hp]
  · rfl
  · cases i with
    | zero => exact flooded_zero hv
    | succ i => exact h i (by omega)
theorem dry_none {L : Land} {v : Nat} (hv : v ≠ 0) (h : ∀ i, i < 101 → (L.flooded (i + 1)).contains v = false) : L.dry v = none := by
  unfold Land.dry
  rw [find_none_upto (p := fun h => (L.flooded h).contains v) (n := MOST + 2) (fun i hi => ?_)]
  · rfl
  · cases i with
    | zero => exact flooded_zero hv
    | succ i => exact h i (by unfold MOST at hi; omega)
end Dk
/-! The mathematics of prices, of sets, of a list of calls. -/
namespace Dk
open Si98

/-! ### the dikes between, the price -/
/-- what is asked of a dike -/
def cross (h s : Nat) (x : Dike) : Bool := has s x.a != has s x.b && decide (x.high < h)
/-- the first n of the dikes looked at -/
def lowTo (L : Land) (h s n : Nat) : List Nat := (List.range n).filter fun i => cross h s (L.dikes.getD i ⟨0, 0, 0, 0⟩)
theorem lowTo_all (L : Land) (h s : Nat) : lowTo L h s L.dikes.length = L.between h s := rfl
theorem lowTo_zero (L : Land) (h s : Nat) : lowTo L h s 0 = [] := rfl
theorem getD_of {L : Land} {n : Nat} {x : Dike} (hx : L.dikes[n]? = some x) : L.dikes.getD n ⟨0, 0, 0, 0⟩ = x := by
  rw [List.getD_eq_getElem?_getD, hx]
  rfl
theorem lowTo_more {L : Land} {h s n : Nat} {x : Dike} (hx : L.dikes[n]? = some x) : lowTo L h s (n + 1) = if cross h s x = true then lowTo L h s n ++ [n] else lowTo L h s n := by
  unfold lowTo
  rw [List.range_succ, List.filter_append, List.filter_cons, List.filter_nil, getD_of hx]
  split
  · rfl
  · exact List.append_nil _
theorem lowTo_len (L : Land) (h s n : Nat) : (lowTo L h s n).length ≤ n := by
  have := List.length_filter_le (fun i => cross h s (L.dikes.getD i ⟨0, 0, 0, 0⟩)) (List.range n)
  rw [List.length_range] at this
  exact this
theorem between_len {L : Land} {h s : Nat} (w : WF L) : (L.between h s).length ≤ 12 := Nat.le_trans (lowTo_len L h s L.dikes.length) w.n12
theorem mem_between {L : Land} {h s i : Nat} (m : i ∈ L.between h s) : ∃ x, L.dikes[i]? = some x ∧ x ∈ L.dikes ∧ cross h s x = true := by
  have m' : i ∈ lowTo L h s L.dikes.length := m
  unfold lowTo at m'
  rw [List.mem_filter, List.mem_range] at m'
  have e : L.dikes[i]? = some L.dikes[i] := List.getElem?_eq_getElem m'.1
  refine ⟨_, e, List.getElem_mem m'.1, ?_⟩
  have := m'.2
  rw [getD_of e] at this
  exact this
/-- what raising the i-th costs -/
def costAt (L : Land) (h i : Nat) : Int := ((L.dikes.getD i ⟨0, 0, 0, 0⟩).cost : Int) * ((h : Int) - ((L.dikes.getD i ⟨0, 0, 0, 0⟩).high : Int))
def priceTo (L : Land) (h s n : Nat) : Nat := ((L.dikes.take n).map fun x => if (has s x.a != has s x.b) = true then x.cost * (h - x.high) else 0).sum
theorem price_part (L : Land) (h s : Nat) : ∀ n, n ≤ L.dikes.length → ((lowTo L h s n).map (costAt L h)).sum = (priceTo L h s n : Int)
  | 0, _ => rfl
  | n + 1, hn => by
    have e : L.dikes[n]? = some L.dikes[n] := List.getElem?_eq_getElem (by omega)
    have ih := price_part L h s n (by omega)
    generalize L.dikes[n] = x at e
    have ep : priceTo L h s (n + 1) = priceTo L h s n + (if (has s x.a != has s x.b) = true then x.cost * (h - x.high) else 0) := by
      unfold priceTo
      rw [List.take_add_one, e, List.map_append, List.sum_append]
      simp
    rw [lowTo_more e, ep]
    have ec : costAt L h n = (x.cost : Int) * ((h : Int) - (x.high : Int)) := by
      unfold costAt
      rw [getD_of e]
    unfold cross
    by_cases c1 : (has s x.a != has s x.b) = true
    · rw [c1, if_pos rfl]
      by_cases c2 : x.high < h
      · rw [decide_eq_true c2]
        simp only [Bool.and_self, if_true]
        rw [List.map_append, List.sum_append, ih]
        simp only [List.map_cons, List.map_nil, List.sum_cons, List.sum_nil]
        rw [ec, Int.natCast_add, Int.natCast_mul, Int.natCast_sub (Nat.le_of_lt c2)]
        omega
      · rw [decide_eq_false c2]
        simp only [Bool.and_false, Bool.false_eq_true, if_false]
        have : h - x.high = 0 := by omega
        rw [ih, this, Nat.mul_zero, Nat.add_zero]
    · have c1' : (has s x.a != has s x.b) = false := by simpa using c1
      rw [c1', if_neg Bool.false_ne_true]
      simp only [Bool.false_and, Bool.false_eq_true, if_false]
      rw [ih, Nat.add_zero]
theorem price_eq (L : Land) (h s : Nat) : ((L.between h s).map (costAt L h)).sum = (L.price h s : Int) := by
  have := price_part L h s L.dikes.length (Nat.le_refl _)
  rw [lowTo_all] at this
  rw [this]
  unfold priceTo Land.price
  rw [List.take_length]

/-! ### bits -/
theorem shr_bit (n c : Nat) : decide (((n : Int) / 2 ^ (Int.toNat (c : Int))) % 2 = 1) = n.testBit c := by
  have e : ((n : Int) / 2 ^ (Int.toNat (c : Int))) % 2 = ((n / 2 ^ c % 2 : Nat) : Int) := by
    rw [Int.toNat_natCast]
    have : (2 : Int) ^ c = ((2 ^ c : Nat) : Int) := by simp
    rw [this]
    simp
  rw [e, Nat.testBit_eq_decide_div_mod_eq]
  congr 1
  exact propext ⟨fun h => by omega, fun h => by omega⟩
theorem sub_le_of_and {t s : Nat} (h : t &&& s = s) : s ≤ t := by
  rw [← h]
  exact Nat.and_le_left
/-- the sets of the specification, by a test of one number -/
def inSets (L : Land) (s t : Nat) : Bool := !has t 0 && (List.range L.count).all fun v => !has s v || has t v
theorem sets_eq (L : Land) (s : Nat) : L.sets s = (List.range (2 ^ L.count)).filter (inSets L s) := rfl
theorem inSets_even {L : Land} {s i : Nat} (hs : s < 2 ^ L.count) : inSets L s (2 * i) = decide ((2 * i) &&& s = s) := by
  have h0 : has (2 * i) 0 = false := by
    unfold has
    simp
  have key : (∀ v, v < L.count → s.testBit v = true → (2 * i).testBit v = true) ↔ (2 * i) &&& s = s := by
    constructor
    · intro h
      apply Nat.eq_of_testBit_eq
      intro v
      rw [Nat.testBit_and]
      cases q : s.testBit v with
      | false => simp
      | true =>
        have hv : v < L.count := by
          by_cases c : v < L.count
          · exact c
          · have : s.testBit v = false := Nat.testBit_lt_two_pow (Nat.lt_of_lt_of_le hs (Nat.pow_le_pow_right (by decide) (by omega)))
            rw [this] at q
            cases q
        rw [h v hv q]
        rfl
    · intro h v _ hv
      have : ((2 * i) &&& s).testBit v = true := by rw [h]; exact hv
      rw [Nat.testBit_and, Bool.and_eq_true] at this
      exact this.1
  unfold inSets
  rw [h0]
  simp only [Bool.not_false, Bool.true_and]
  rw [Bool.eq_iff_iff, List.all_eq_true, decide_eq_true_iff, ← key]
  constructor
  · intro h v hv hb
    have := h v (List.mem_range.mpr hv)
    unfold has at this
    rw [hb] at this
    simpa using this
  · intro h v hv
    rw [List.mem_range] at hv
    unfold has
    cases q : s.testBit v with
    | false => simp
    | true => rw [h v hv q]; simp
theorem inSets_odd {L : Land} {s i : Nat} : inSets L s (2 * i + 1) = false := by
  have h0 : has (2 * i + 1) 0 = true := by
    unfold has
    simp
  unfold inSets
  rw [h0]
  rfl

/-! ### the best of all sets -/
def bestStep (L : Land) (h : Nat) (r : Option Best) (t : Nat) : Option Best := match r with
  | none => some ⟨L.price h t, 1, t⟩
  | some x => if L.price h t < x.cost then some ⟨L.price h t, 1, t⟩ else if L.price h t = x.cost then some { x with many := x.many + 1 } else some x
def bestTo (L : Land) (h s n : Nat) : Option Best := ((List.range (2 * n)).filter (inSets L s)).foldl (bestStep L h) none
theorem raise_eq (L : Land) (h s : Nat) (hc : 1 ≤ L.count) : L.raise h s = bestTo L h s (2 ^ (L.count - 1)) := by
  have e : 2 * 2 ^ (L.count - 1) = 2 ^ L.count := by
    obtain ⟨n, hn⟩ : ∃ n, L.count = n + 1 := ⟨L.count - 1, by omega⟩
    rw [hn, Nat.add_sub_cancel, Nat.pow_succ, Nat.mul_comm]
  unfold bestTo
  rw [e, ← sets_eq]
  rfl
theorem bestTo_zero (L : Land) (h s : Nat) : bestTo L h s 0 = none := rfl
theorem bestTo_more {L : Land} {h s n : Nat} (hs : s < 2 ^ L.count) : bestTo L h s (n + 1) = if (2 * n) &&& s = s then bestStep L h (bestTo L h s n) (2 * n) else bestTo L h s n := by
  unfold bestTo
  have e : 2 * (n + 1) = 2 * n + 1 + 1 := by omega
  rw [e, List.range_succ, List.range_succ, List.filter_append, List.filter_append, List.foldl_append, List.foldl_append, List.filter_cons, List.filter_nil, List.filter_cons, List.filter_nil, inSets_odd, inSets_even hs]
  by_cases c : (2 * n) &&& s = s
  · rw [if_pos c]
    simp [c]
  · rw [if_neg c]
    simp [c]
/-- the state of the program's loop: what is found, as a Best; ahead of the first set its many is 0 -/
structure Sees (L : Land) (h s n : Nat) (b : Best) : Prop where
  no : bestTo L h s n = none → b = ⟨L.price h s, 0, s⟩ ∧ 2 * n ≤ s
  yes : ∀ x, bestTo L h s n = some x → b = x ∧ x.set_ < 2 * n
theorem sees_zero (L : Land) (h s : Nat) : Sees L h s 0 ⟨L.price h s, 0, s⟩ where
  no := fun _ => ⟨rfl, Nat.zero_le _⟩
  yes := fun x e => by
    rw [bestTo_zero] at e
    cases e
theorem even_of {s : Nat} (h : has s 0 = false) : s = 2 * (s / 2) := by
  unfold has at h
  simp at h
  omega
theorem sees_skip {L : Land} {h s n : Nat} {b : Best} (hs : s < 2 ^ L.count) (S : Sees L h s n b) (h0 : has s 0 = false) (c : ¬ (2 * n) &&& s = s) : Sees L h s (n + 1) b where
  no := fun e => by
    rw [bestTo_more hs, if_neg c] at e
    obtain ⟨e1, e2⟩ := S.no e
    refine ⟨e1, ?_⟩
    have e3 := even_of h0
    by_cases q : s = 2 * n
    · subst q
      exact absurd (Nat.and_self _) c
    · omega
  yes := fun x e => by
    rw [bestTo_more hs, if_neg c] at e
    obtain ⟨e1, e2⟩ := S.yes x e
    exact ⟨e1, by omega⟩
/-- one turn of the program's loop, at a set that keeps s -/
def turn (L : Land) (h t : Nat) (b : Best) : Best :=
  if L.price h t < b.cost then ⟨L.price h t, 1, t⟩ else if L.price h t = b.cost then ⟨b.cost, b.many + 1, min b.set_ t⟩ else b
theorem sees_turn {L : Land} {h s n : Nat} {b : Best} (hs : s < 2 ^ L.count) (S : Sees L h s n b) (c : (2 * n) &&& s = s) : Sees L h s (n + 1) (turn L h (2 * n) b) := by
  cases e : bestTo L h s n with
  | none =>
    obtain ⟨e1, e2⟩ := S.no e
    have e3 : s = 2 * n := Nat.le_antisymm (sub_le_of_and c) e2
    have e4 : bestTo L h s (n + 1) = some ⟨L.price h s, 1, s⟩ := by
      rw [bestTo_more hs, if_pos c, e, ← e3]
      rfl
    have e5 : turn L h (2 * n) b = ⟨L.price h s, 1, s⟩ := by
      rw [e1, ← e3]
      unfold turn
      simp
    refine ⟨fun z => (by rw [e4] at z; cases z), fun x z => ?_⟩
    rw [e4] at z
    cases z
    exact ⟨e5, by show s < 2 * (n + 1); omega⟩
  | some x =>
    obtain ⟨e1, e2⟩ := S.yes x e
    subst e1
    have e4 : bestTo L h s (n + 1) = some (turn L h (2 * n) b) := by
      rw [bestTo_more hs, if_pos c, e]
      unfold bestStep turn
      simp only
      have hm : min b.set_ (2 * n) = b.set_ := by omega
      rw [hm]
      split
      · rfl
      · split
        · rfl
        · rfl
    refine ⟨fun z => (by rw [e4] at z; cases z), fun y z => ?_⟩
    rw [e4] at z
    cases z
    refine ⟨rfl, ?_⟩
    unfold turn
    split
    · show 2 * n < _
      omega
    · split
      · show min b.set_ (2 * n) < _
        omega
      · omega
theorem pow_half {L : Land} (hc : 1 ≤ L.count) : 2 * 2 ^ (L.count - 1) = 2 ^ L.count := by
  obtain ⟨n, hn⟩ : ∃ n, L.count = n + 1 := ⟨L.count - 1, by omega⟩
  rw [hn, Nat.add_sub_cancel, Nat.pow_succ, Nat.mul_comm]
theorem sees_all {L : Land} {h s : Nat} {b : Best} (hc : 1 ≤ L.count) (hs : s < 2 ^ L.count) (S : Sees L h s (2 ^ (L.count - 1)) b) : L.raise h s = some b := by
  rw [raise_eq L h s hc]
  cases e : bestTo L h s (2 ^ (L.count - 1)) with
  | none =>
    have := (S.no e).2
    rw [pow_half hc] at this
    omega
  | some x => rw [(S.yes x e).1]
/-! ### bounds -/
theorem sum_le {f : Dike → Nat} {m : Nat} : ∀ (l : List Dike), (∀ x, x ∈ l → f x ≤ m) → (l.map f).sum ≤ l.length * m
  | [], _ => by simp
  | x :: r, h => by
    have ih := sum_le r fun y hy => h y (List.mem_cons_of_mem _ hy)
    have hx := h x List.mem_cons_self
    rw [List.map_cons, List.sum_cons, List.length_cons, Nat.succ_mul]
    omega

/-! ### for -/
theorem raise_some {L : Land} (w : WF L) {h s : Nat} (hs : s < 2 ^ L.count) (h0 : has s 0 = false) : ∃ b, L.raise h s = some b := by
  have : ∀ n, ∃ b, Sees L h s n b := by
    intro n
    induction n with
    | zero => exact ⟨_, sees_zero L h s⟩
    | succ n ih =>
      obtain ⟨b, S⟩ := ih
      by_cases c : (2 * n) &&& s = s
      · exact ⟨_, sees_turn hs S c⟩
      · exact ⟨_, sees_skip hs S h0 c⟩
  obtain ⟨b, S⟩ := this (2 ^ (L.count - 1))
  exact ⟨b, sees_all w.c1 hs S⟩
theorem price_zero (L : Land) (s : Nat) : L.price 0 s = 0 := by
  unfold Land.price
  have : (L.dikes.map fun x => if (has s x.a != has s x.b) = true then x.cost * (0 - x.high) else 0).sum ≤ L.dikes.length * 0 := sum_le _ fun x _ => by simp
  rw [Nat.mul_zero] at this
  omega
theorem fold_cost {L : Land} {h c : Nat} (hp : ∀ t, L.price h t = c) : ∀ (l : List Nat) (r : Option Best), (∀ x, r = some x → x.cost = c) → ∀ x, l.foldl (bestStep L h) r = some x → x.cost = c
  | [], r, hr, x, e => hr x e
  | t :: l, r, hr, x, e => by
    rw [List.foldl_cons] at e
    refine fold_cost hp l _ (fun y hy => ?_) x e
    unfold bestStep at hy
    cases r with
    | none =>
      simp only at hy
      cases hy
      exact hp t
    | some z =>
      simp only at hy
      split at hy
      · cases hy
        exact hp t
      · split at hy
        · cases hy
          exact (hr z rfl : z.cost = c)
        · cases hy
          exact hr _ rfl
theorem raise_zero {L : Land} (hc : 1 ≤ L.count) {s : Nat} {b : Best} (e : L.raise 0 s = some b) : b.cost = 0 := by
  rw [raise_eq L 0 s hc] at e
  exact fold_cost (fun t => price_zero L t) _ none (fun x z => by cases z) b e
/-- the test that for looks for -/
def tooDear (L : Land) (m s h : Nat) : Bool := match L.raise h s with
  | none => true
  | some x => decide (m < x.cost)
theorem tooDear_of {L : Land} {m s h : Nat} {b : Best} (e : L.raise h s = some b) : tooDear L m s h = decide (m < b.cost) := by
  unfold tooDear
  rw [e]
theorem tooDear_zero {L : Land} (w : WF L) {m s : Nat} (hs : s < 2 ^ L.count) (h0 : has s 0 = false) : tooDear L m s 0 = false := by
  obtain ⟨b, e⟩ := raise_some (h := 0) w hs h0
  rw [tooDear_of e, raise_zero w.c1 e]
  exact decide_eq_false (by omega)
theorem for_some {L : Land} (w : WF L) {m s k : Nat} (hs : s < 2 ^ L.count) (h0 : has s 0 = false) (hk : k < 100) (h : ∀ i, i < k → tooDear L m s (i + 1) = false) (hp : tooDear L m s (k + 1) = true) : L.for_ m s = some k := by
  have e : (List.range (MOST + 1)).find? (tooDear L m s) = some (k + 1) := find_first (by unfold MOST; omega) (fun i hi => by
    cases i with
    | zero => exact tooDear_zero w hs h0
    | succ i => exact h i (by omega)) hp
  show ((List.range (MOST + 1)).find? (tooDear L m s)).map (fun h => h - 1) = some k
  rw [e]
  rfl
theorem for_none {L : Land} (w : WF L) {m s : Nat} (hs : s < 2 ^ L.count) (h0 : has s 0 = false) (h : ∀ i, i < 100 → tooDear L m s (i + 1) = false) : L.for_ m s = none := by
  have e : (List.range (MOST + 1)).find? (tooDear L m s) = none := find_none_upto (fun i hi => by
    cases i with
    | zero => exact tooDear_zero w hs h0
    | succ i => exact h i (by unfold MOST at hi; omega))
  show ((List.range (MOST + 1)).find? (tooDear L m s)).map (fun h => h - 1) = none
  rw [e]
  rfl
/-! ### each call keeps a land well formed -/
theorem wf_step {L : Land} (w : WF L) (q : Si98.Call) : WF (Si98.step L q).1 := by
  cases q with
  | begins n =>
    show WF (if n < 1 ∨ COUNT < n then (L, ok (-1)) else (⟨n, []⟩, ok 0)).1
    split
    · exact w
    · rename_i c
      unfold COUNT at c
      exact ⟨by show 1 ≤ n; omega, by show n ≤ 7; omega, Nat.zero_le _, by intro d hd; cases hd⟩
  | dike x =>
    show WF (if L.count ≤ x.a ∨ L.count ≤ x.b then (L, ok (-2)) else if x.a = x.b then (L, ok (-4)) else if MOST < x.high ∨ x.cost < 1 ∨ COST < x.cost then (L, ok (-1)) else if DIKES ≤ L.dikes.length then (L, ok (-5)) else ({ L with dikes := L.dikes ++ [x] }, ok ((L.dikes.length : Nat) : Int))).1
    split
    · exact w
    · split
      · exact w
      · split
        · exact w
        · split
          · exact w
          · rename_i c1 c2 c3 c4
            unfold MOST COST at c3
            unfold DIKES at c4
            refine ⟨w.c1, w.c7, ?_, ?_⟩
            · show (L.dikes ++ [x]).length ≤ 12
              rw [List.length_append]
              simp
              omega
            · intro d hd
              rw [List.mem_append] at hd
              rcases hd with hd | hd
              · exact w.dk d hd
              · simp at hd
                subst hd
                exact ⟨by show d.a < L.count; omega, by show d.b < L.count; omega, by omega, by omega⟩
  | floods h =>
    show WF (if MOST < h then _ else _ : Land × Ans).1
    split <;> exact w
  | dry v =>
    show WF (if _ then _ else if _ then _ else _ : Land × Ans).1
    split
    · exact w
    · split <;> exact w
  | raise h s =>
    show WF (if _ then _ else if _ then _ else _ : Land × Ans).1
    split
    · exact w
    · split <;> exact w
  | for_ m s =>
    show WF (if _ then _ else if _ then _ else _ : Land × Ans).1
    split
    · exact w
    · split <;> exact w
end Dk
/-! The list of calls, read one behind another. -/
namespace Dk
open Si98

inductive IsCall : Int → List Int → Si98.Call → Prop
  | begins (n : Nat) : IsCall 0 [(n : Int)] (.begins n)
  | dike (a b h c : Nat) : IsCall 1 [(a : Int), (b : Int), (h : Int), (c : Int)] (.dike ⟨a, b, h, c⟩)
  | floods (h : Nat) : IsCall 2 [(h : Int)] (.floods h)
  | dry (v : Nat) : IsCall 3 [(v : Int)] (.dry v)
  | raise (h s : Nat) : IsCall 4 [(h : Int), (s : Int)] (.raise h s)
  | for_ (m s : Nat) : IsCall 5 [(m : Int), (s : Int)] (.for_ m s)
def numbersOf : List Int := [1, 4, 1, 1, 2, 2]
/-- all that a call is answered, the number first -/
def ansOf (L : Land) (q : Si98.Call) : List Int := (Si98.step L q).2.v :: (Si98.step L q).2.l

theorem shape_cases {p : Int} {n k : Nat} (h : PySi98.shape p = some (n, k)) : k = 0 ∧ ((p = 0 ∧ n = 1) ∨ (p = 1 ∧ n = 4) ∨ (p = 2 ∧ n = 1) ∨ (p = 3 ∧ n = 1) ∨ (p = 4 ∧ n = 2) ∨ (p = 5 ∧ n = 2)) := by
  unfold PySi98.shape at h
  split at h
  · cases h
    exact ⟨rfl, .inl ⟨by assumption, rfl⟩⟩
  · split at h
    · cases h
      exact ⟨rfl, .inr (.inl ⟨by assumption, rfl⟩)⟩
    · split at h
      · cases h
        exact ⟨rfl, .inr (.inr (.inl ⟨by assumption, rfl⟩))⟩
      · split at h
        · cases h
          exact ⟨rfl, .inr (.inr (.inr (.inl ⟨by assumption, rfl⟩)))⟩
        · split at h
          · cases h
            exact ⟨rfl, .inr (.inr (.inr (.inr (.inl ⟨by assumption, rfl⟩))))⟩
          · split at h
            · cases h
              exact ⟨rfl, .inr (.inr (.inr (.inr (.inr ⟨by assumption, rfl⟩))))⟩
            · cases h
theorem step_of {L : Land} {c : List (List Int)} {q : Si98.Call} (h : Si98Neutral.callOf (c.headD []) = some q) : Si98Neutral.step L c = ((Si98.step L q).1, ansOf L q) := by
  unfold Si98Neutral.step
  rw [h]
  rfl
theorem nat_of {x : Int} (h : 0 ≤ x) : ∃ n : Nat, x = (n : Int) := ⟨x.toNat, by omega⟩
theorem len1 {xs : List Int} (h : xs.length = 1) : ∃ a, xs = [a] := by
  match xs, h with
  | [a], _ => exact ⟨a, rfl⟩
theorem len2 {xs : List Int} (h : xs.length = 2) : ∃ a b, xs = [a, b] := by
  match xs, h with
  | [a, b], _ => exact ⟨a, b, rfl⟩
theorem len4 {xs : List Int} (h : xs.length = 4) : ∃ a b c d, xs = [a, b, c, d] := by
  match xs, h with
  | [a, b, c, d], _ => exact ⟨a, b, c, d, rfl⟩
theorem call_is {p : Int} {n k : Nat} {xs : List Int} (h : PySi98.shape p = some (n, k)) (hl : xs.length = n) (hp : ∀ x, x ∈ xs → 0 ≤ x) :
    ∃ q, IsCall p xs q ∧ ∀ L, Si98Neutral.step L (PySi98.whole [p :: xs]) = ((Si98.step L q).1, ansOf L q) := by
  obtain ⟨_, c⟩ := shape_cases h
  rcases c with ⟨rfl, rfl⟩ | ⟨rfl, rfl⟩ | ⟨rfl, rfl⟩ | ⟨rfl, rfl⟩ | ⟨rfl, rfl⟩ | ⟨rfl, rfl⟩
  · obtain ⟨x, rfl⟩ := len1 hl
    obtain ⟨a, rfl⟩ := nat_of (hp x (by simp))
    exact ⟨_, .begins a, fun L => step_of rfl⟩
  · obtain ⟨x, y, z, u, rfl⟩ := len4 hl
    obtain ⟨a, rfl⟩ := nat_of (hp x (by simp))
    obtain ⟨b, rfl⟩ := nat_of (hp y (by simp))
    obtain ⟨c, rfl⟩ := nat_of (hp z (by simp))
    obtain ⟨d, rfl⟩ := nat_of (hp u (by simp))
    exact ⟨_, .dike a b c d, fun L => step_of rfl⟩
  · obtain ⟨x, rfl⟩ := len1 hl
    obtain ⟨a, rfl⟩ := nat_of (hp x (by simp))
    exact ⟨_, .floods a, fun L => step_of rfl⟩
  · obtain ⟨x, rfl⟩ := len1 hl
    obtain ⟨a, rfl⟩ := nat_of (hp x (by simp))
    exact ⟨_, .dry a, fun L => step_of rfl⟩
  · obtain ⟨x, y, rfl⟩ := len2 hl
    obtain ⟨a, rfl⟩ := nat_of (hp x (by simp))
    obtain ⟨b, rfl⟩ := nat_of (hp y (by simp))
    exact ⟨_, .raise a b, fun L => step_of rfl⟩
  · obtain ⟨x, y, rfl⟩ := len2 hl
    obtain ⟨a, rfl⟩ := nat_of (hp x (by simp))
    obtain ⟨b, rfl⟩ := nat_of (hp y (by simp))
    exact ⟨_, .for_ a b, fun L => step_of rfl⟩
theorem numbers_at {p : Int} {n k : Nat} (h : PySi98.shape p = some (n, k)) : 0 ≤ p ∧ numbersOf[p.toNat]? = some (n : Int) := by
  obtain ⟨_, c⟩ := shape_cases h
  rcases c with ⟨rfl, rfl⟩ | ⟨rfl, rfl⟩ | ⟨rfl, rfl⟩ | ⟨rfl, rfl⟩ | ⟨rfl, rfl⟩ | ⟨rfl, rfl⟩ <;> exact ⟨by decide, rfl⟩

/-- behind the call that ends at a place: the land, what is answered so far -/
structure Going (ns : List Int) (i : Nat) (L : Land) (out : List Int) : Prop where
  le : i ≤ ns.length
  w : WF L
  go : ∃ f cs, PyFlat.calls PySi98.shape f (ns.drop i) = some cs ∧ out ++ PyFlat.told (PyFlat.played Si98Neutral.step L (cs.map PySi98.whole)) = PySi98.answers ns
theorem going_start {ns : List Int} (h : PySi98.answers_asked ns = true) : Going ns 0 Si98.init [] ∧ (PySi98.answers ns).length ≤ 10000000 := by
  unfold PySi98.answers_asked at h
  cases e : PyFlat.calls PySi98.shape ns.length ns with
  | none =>
    rw [e] at h
    cases h
  | some cs =>
    rw [e] at h
    simp only [Bool.and_eq_true] at h
    refine ⟨⟨Nat.zero_le _, wf_init, ns.length, cs, e, ?_⟩, of_decide_eq_true h.2⟩
    unfold PySi98.answers PySi98.calls
    rw [e]
    rfl
theorem going_len {ns : List Int} {i : Nat} {L : Land} {out : List Int} (G : Going ns i L out) : out.length ≤ (PySi98.answers ns).length := by
  obtain ⟨f, cs, _, e⟩ := G.go
  rw [← e, List.length_append]
  exact Nat.le_add_right _ _
theorem going_end {ns : List Int} {i : Nat} {L : Land} {out : List Int} (G : Going ns i L out) (h : ¬ i < ns.length) : out = PySi98.answers ns := by
  obtain ⟨f, cs, c, e⟩ := G.go
  rw [List.drop_eq_nil_of_le (Nat.le_of_not_lt h)] at c
  have ec : cs = [] := by
    cases f <;> exact (Option.some.inj c).symm
  rw [ec] at e
  rw [← e]
  show out = out ++ []
  rw [List.append_nil]
theorem going_turn {ns : List Int} {i : Nat} {L : Land} {out : List Int} (hpos : ∀ x, x ∈ ns → 0 ≤ x) (G : Going ns i L out) (h : i < ns.length) :
    ∃ (p : Int) (n : Nat) (q : Si98.Call), ns[i]? = some p ∧ 0 ≤ p ∧ numbersOf[p.toNat]? = some (n : Int) ∧ i + 1 + n ≤ ns.length ∧ IsCall p ((ns.drop (i + 1)).take n) q ∧
      Going ns (i + 1 + n) (Si98.step L q).1 (out ++ (((ansOf L q).length : Nat) : Int) :: ansOf L q) := by
  obtain ⟨f, cs, c, e⟩ := G.go
  have hd : ns.drop i = ns[i] :: ns.drop (i + 1) := List.drop_eq_getElem_cons h
  have hget : ns[i]? = some ns[i] := List.getElem?_eq_getElem h
  generalize ns[i] = p at hd hget
  rw [hd] at c
  cases f with
  | zero => cases c
  | succ f =>
    have c' : (match PyFlat.call PySi98.shape (p :: ns.drop (i + 1)) with
      | none => none
      | some (c, t) => match PyFlat.calls PySi98.shape f t with
        | none => none
        | some cs => some (c :: cs)) = some cs := c
    have ecall : PyFlat.call PySi98.shape (p :: ns.drop (i + 1)) = (match PySi98.shape p with
      | none => none
      | some (n, k) => if (ns.drop (i + 1)).length < n then none else match PyFlat.rows k ((ns.drop (i + 1)).drop n) with
        | none => none
        | some (xs, t) => some ((p :: (ns.drop (i + 1)).take n) :: xs, t)) := rfl
    rw [ecall] at c'
    cases es : PySi98.shape p with
    | none =>
      rw [es] at c'
      cases c'
    | some nk =>
      obtain ⟨n, k⟩ := nk
      rw [es] at c'
      obtain ⟨hk, _⟩ := shape_cases es
      subst hk
      obtain ⟨hp0, hnum⟩ := numbers_at es
      by_cases hl : (ns.drop (i + 1)).length < n
      · simp only [if_pos hl] at c'
        cases c'
      · simp only [if_neg hl] at c'
        have c2 : (match PyFlat.calls PySi98.shape f ((ns.drop (i + 1)).drop n) with
          | none => none
          | some cs => some ([p :: (ns.drop (i + 1)).take n] :: cs)) = some cs := c'
        cases ec : PyFlat.calls PySi98.shape f ((ns.drop (i + 1)).drop n) with
        | none =>
          rw [ec] at c2
          cases c2
        | some cs' =>
          rw [ec] at c2
          have ecs : cs = [p :: (ns.drop (i + 1)).take n] :: cs' := (Option.some.inj c2).symm
          subst ecs
          have hlen : ((ns.drop (i + 1)).take n).length = n := by
            rw [List.length_take]
            omega
          obtain ⟨q, hq, hstep⟩ := call_is es hlen (fun x hx => hpos x (List.mem_of_mem_drop (List.mem_of_mem_take hx)))
          rw [List.length_drop] at hl
          refine ⟨p, n, q, hget, hp0, hnum, by omega, hq, ⟨by omega, wf_step G.w q, f, cs', ?_, ?_⟩⟩
          · rw [← ec, List.drop_drop]
          · rw [← e, List.map_cons]
            show _ = out ++ PyFlat.told ((Si98Neutral.step L (PySi98.whole [p :: (ns.drop (i + 1)).take n])).2 :: PyFlat.played Si98Neutral.step (Si98Neutral.step L (PySi98.whole [p :: (ns.drop (i + 1)).take n])).1 (cs'.map PySi98.whole))
            rw [hstep L]
            show (out ++ (((ansOf L q).length : Nat) : Int) :: ansOf L q) ++ PyFlat.told (PyFlat.played Si98Neutral.step (Si98.step L q).1 (cs'.map PySi98.whole)) = out ++ ((((ansOf L q).length : Nat) : Int) :: ansOf L q ++ PyFlat.told (PyFlat.played Si98Neutral.step (Si98.step L q).1 (cs'.map PySi98.whole)))
            rw [List.append_assoc]
end Dk
namespace PySem
namespace RfX
open PySem.W PySem.Calls PyProof.Rows PySem.HandSPX
/-! ### the text of __init__ -/
def iA (p1 p2 : Pos) : Arguments := { posonlyargs := [], args := [{ arg := "self", annotation := none, pos := p1 }, { arg := "code", annotation := none, pos := p2 }], vararg := none, kwonlyargs := [], kw_defaults := [], kwarg := none, defaults := [] }
def iB (q1 q2 q3 q4 : Pos) : List Stmt := [.Assign [.Attribute (.Name "self" q1) "code" q2] (.Name "code" q3) q4]
def iS : Scope := { kind := .function, names := [(PySem.Str.ofString "self", .local), (PySem.Str.ofString "code", .local)], isGenerator := false, isCoroutine := false, more := [] }
/-- what the written part says of Low, at C, and of its __init__, at fI -/
structure RfTxt (K : Frag) (mg : Str → Option Value) (C fI : Addr) : Prop where
  gC : mg "Refused" = some (.ref C)
  cls : ∃ nm q N bs bm sn sub ab col dd k0 k1 k2 k3 k5, K.lookup C = some (excClassObj nm q C N bs bm true sn sub ab col dd k0 k1 k2 k3 k5 "ValueError.__new__") ∧ refsVE bm = true
  sa : findIn K (.ref C) "__setattr__" = some (some (.builtin "object.__setattr__"))
  ga : findIn K (.ref C) "__getattribute__" = some (some (.builtin "BaseException.__getattribute__"))
  gg : findIn K (.ref C) "__getattr__" = some none
  noN : findIn K (.ref C) "code" = some none
  iC : findIn K (.ref C) "__init__" = some (some (.ref fI))
  tC : typeIn K (.ref fI) = some (.type "function")
  kC : keepIn K (.ref C) = true
  exC : subIn K (.ref C) (.type "BaseException") = some true
  tyC : typeIn K (.ref C) = some (.type "type")
  hdC : hasDictIn K C = true
  te : exmOne K (.ref C) (.ref C) = some true
  fn : ∃ (oc : Value) (od : Option Addr) (doc pm : Value) (an : Option Addr) (cdv ct : Value) (osl : Array (Option Value)) (p1 p2 q1 q2 q3 q4 : Pos),
    K.lookup fI = some ⟨oc, od, .func (fnOf "__init__" "Refused.__init__" (iA p1 p2) (iB q1 q2 q3 q4) iS .none .none doc pm an cdv ct), osl⟩ ∧ codeIn K cdv "Refused.__init__" = true
theorem one_size (v : Value) : [v].length ≤ sizeLine := by
  rw [sizeLine_eq]
  exact (by decide : 1 ≤ 16777216)
theorem kept_but {K : Frag} {h h' : Heap} {x : Addr} (X : K.In h) (hx : K.lookup x = none) (k : ∀ b o, b ≠ x → h.get? b = some o → h'.get? b = some o) : K.In h' := fun a o e =>
  k a o (fun z => by rw [z, hx] at e; cases e) (X a o e)
theorem ldC {M : Model} {s : Shared} {name : Str} {scope : Scope} {L a : Addr} {cd : Value} {m : Str → Option Value} {x : Str} {pos : Pos} {v : Value} {Q : Value → Shared → Prop} {A : Around} {E : Value → Shared → Prop} (hn : s.heap.Ns L m) (hv : m x = some v) (h : Q v s)
    (hk : scope.kind = .function := by rfl) (hl : (envOfC name scope L a cd).kindOf x = some .local := by rfl) (hd : (x == ("__debug__" : Str)) = false := by decide) :
    wpAny M A (eval (.Name x pos) (envOfC name scope L a cd)) Q E s := wpAny_Name (wpAny_loadName_local hk hl hn hv h) hd
/-- what __init__ leaves of a fresh exception at x -/
structure InitEnd (h h' : Heap) (x C dx t1 : Addr) (v : Value) : Prop where
  keep : ∀ b o, b ≠ x → h.get? b = some o → h'.get? b = some o
  obj : h'.get? x = some { cls := .ref C, dict := some dx, data := .fields #[.ref t1, .none, .none, .none, .bool false, .none] }
  dbig : h.objs.size ≤ dx
  dne : dx ≠ x
  ns : h'.Ns1 dx (fun y => if y = "code" then some v else none)
/-- a made Low -/
structure OwnMade (h h' : Heap) (e C d : Addr) (v : Value) : Prop where
  keep : ∀ b o, h.get? b = some o → h'.get? b = some o
  new : h.objs.size ≤ e
  obj : ∃ oe vs, h'.get? e = some oe ∧ oe.cls = .ref C ∧ oe.dict = some d ∧ oe.data = .fields vs ∧ vs[1]? = some .none
  dbig : h.objs.size ≤ d
  dne : d ≠ e
  ns : h'.Ns1 d (fun y => if y = "code" then some v else none)
section
variable {prog : Program} {w : World} {A : Around} {E : Value → Shared → Prop} {R : Result → Shared → Prop} {s : Shared} {K : Frag} {mg : Str → Option Value} {C fI : Addr}
theorem rf_init (T : RfTxt K mg C fI) {x t0 : Addr} {v : Value} (X : K.In s.heap) (hlim : s.heap.NoLimit) (hx : s.heap.get? x = some (excO C t0)) (hnx : K.lookup x = none) (hroom : A.depth < recursionLimit)
    (hq : ∀ h' tk dx, InitEnd s.heap h' x C dx t0 v → R (.ok (.ret .none)) { s with heap := h', toks := tk }) :
    codeAny (model prog w) A (.call (.ref fI) ⟨[.ref x, v], []⟩) R s := by
  obtain ⟨oc, od, doc, pm, an, cdv, ct, osl, p1, p2, q1, q2, q3, q4, ho, hcd⟩ := T.fn
  obtain ⟨nm, q, N, bs, bm, sn, sub, ab, col, dd, k0, k1, k2, k3, k5, hC, hbm⟩ := T.cls
  have hcl : clsIn K C = some { name := nm, bases := bs, mro := .ref C :: bm, ns := N, qualname := q, hasDict := true, slotNames := sn, subclasses := sub, abstract := ab, collection := col, hasDel := false } := by unfold clsIn; rw [hC] <;> rfl
  refine Att.call_fn (binds := [("self", .ref x), ("code", v)]) X hlim ho hcd hroom (BindsTo.of_eq (by first | rfl | with_unfolding_all rfl)) (by first | rfl | decide | with_unfolding_all rfl) (fun s₁ IC => ?_) rfl rfl rfl
  obtain ⟨h₁, tk₁, rfl⟩ := IC.toInCall.same
  have k : ∀ b o, s.heap.get? b = some o → h₁.get? b = some o := IC.toInCall.keep
  have hn := IC.toInCall.ns
  have hxL : s.heap.objs.size ≠ x := Nat.ne_of_gt (Heap.lt_size hx)
  have X₁ : K.In h₁ := X.keeps k
  have hx₁ := k _ _ hx
  -- self.by = by
  show wpAny _ _ (execs _ _) _ _ _
  refine wpAny_execs_cons (plainObj_wpAny_Assign_Attribute ?_)
  refine ldC (v := v) hn (by first | rfl | with_unfolding_all rfl | kernel_rfl) (ldC (v := .ref x) hn (by first | rfl | with_unfolding_all rfl | kernel_rfl) ?_)
  refine set_plain X₁ (ox := excO C t0) (od := none) ⟨hx₁, rfl, rfl, trivial⟩ T.sa ?_
  refine exc_osa X₁ hx₁ hcl (show refsVE (.ref C :: bm) = true from hbm) rfl T.noN (fun h₃ tk₃ dx k₃ dn dne hx₃ hn₃ => ?_)
  show wpAny _ _ (execs _ _) _ _ _
  have z : s.heap.objs.size < h₁.objs.size := hn.lt
  exact wpAny_execs_nil (hq h₃ tk₃ dx ⟨fun b o hb e => k₃ b o hb (k b o e), hx₃, Nat.le_of_lt (Nat.lt_of_lt_of_le z dn), dne, hn₃⟩)
theorem rf_made (T : RfTxt K mg C fI) {v : Value} (X : K.In s.heap) (hlim : s.heap.NoLimit) (hroom : A.depth + 1 < recursionLimit)
    (hq : ∀ h' tk e d, OwnMade s.heap h' e C d v → R (.ok (.ret (.ref e))) { s with heap := h', toks := tk }) :
    codeAny (model prog w) A (.call (.ref C) ⟨[v], []⟩) R s := by
  obtain ⟨nm, q, N, bs, bm, sn, sub, ab, col, dd, k0, k1, k2, k3, k5, hC, hbm⟩ := T.cls
  obtain ⟨hp, g, dr, tk, os⟩ := s
  have k : ∀ b o, hp.get? b = some o → ((hp.push (kdv_tup [v])).push (excO C hp.objs.size)).get? b = some o := fun b o e => Heap.get?_push_of_some _ (Heap.get?_push_of_some _ e)
  have hget : ((hp.push (kdv_tup [v])).push (excO C hp.objs.size)).get? (hp.objs.size + 1) = some (excO C hp.objs.size) := by heap_get
  have hnx : K.lookup (hp.objs.size + 1) = none := by
    cases e : K.lookup (hp.objs.size + 1) with
    | none => rfl
    | some o =>
      have z : hp.get? (hp.objs.size + 1) = some o := X _ _ e
      exact absurd (Nat.lt_of_succ_lt (Heap.lt_size z)) (Nat.lt_irrefl _)
  refine call_own F.excBase_ValueError (fun X => refsVE_contains X bm hbm) (X _ _ hC) (looks_findIn X T.iC) (fun self => bind_fn X self T.tC) (one_size v) ?_
  refine rf_init (s := ⟨(hp.push (kdv_tup [v])).push (excO C hp.objs.size), g, dr, tk, os⟩) T (X.keeps k) (hlim.keeps k) hget hnx ?_ fun h' tk' dx ⟨k', hx, dn, dne, hns⟩ => ?_
  · show A.depth + 1 < recursionLimit
    exact hroom
  · have old : ∀ b o, hp.get? b = some o → h'.get? b = some o := fun b o e => k' b o (Nat.ne_of_lt (Nat.lt_succ_of_lt (Heap.lt_size e))) (k b o e)
    have z : hp.objs.size + 1 + 1 ≤ dx := by
      first
        | (simpa only [Heap.size_push] using dn)
        | exact dn
        | (have q := dn; rw [Heap.size_push, Heap.size_push] at q; exact q)
    exact ⟨rfl, hq h' tk' (hp.objs.size + 1) dx ⟨old, Nat.le_succ _, ⟨_, _, hx, rfl, rfl, rfl, rfl⟩, Nat.le_trans (Nat.le_trans (Nat.le_succ _) (Nat.le_succ _)) z, dne, hns⟩⟩
end
end RfX
end PySem
namespace L2
open PySem PySem.Spec PyProof.Rows
theorem relO_rf {v : V} {v' : Value} (r : RelV v v') (f : Str) : RelO (List.lookup f [(("code" : Str), v)]) (if f = "code" then some v' else none) := by
  by_cases hw : f = "code"
  · subst hw
    rw [if_pos rfl]
    have q : List.lookup ("code" : Str) [(("code" : Str), v)] = some v := by simp [List.lookup]
    rw [q]
    exact r
  · rw [if_neg hw]
    have qw : (f == ("code" : Str)) = false := by simpa using hw
    have q2 : List.lookup f [(("code" : Str), v)] = none := by simp [List.lookup, qw]
    rw [q2]
    trivial
section
variable {X : Cx} {C fI : Addr}
/-- Low(e) -/
def tMkRf (C : Addr) (ta : TA) : St → Hp → XK → Prop := fun σ H Q => ta σ H fun vs H1 => ∃ v, vs = [v] ∧ ∀ d, H1 d = none → Q (.ref C) (some d) (upd H1 d (.xd [(("code" : Str), v)]))
theorem pmk_rf {a : Expr} {ta : TA} {p pos : Pos} {k : Nat} (T : PySem.RfX.RfTxt X.K X.mg C fI) (hr : Room k X.A) (ha : PA X [a] ta) (hg : Gl X "Refused" := by rfl)
    (he : starEach (a :: []) X.env = (false, eval a X.env) :: starEach [] X.env := by rfl) (hpl : (backTo pos (starEach [] X.env)).any (·.1) = false := by rfl) :
    PMk X (.Call (.Name "Refused" p) [a] [] pos) (tMkRf C ta) := by
  intro pins s σ H Q I h
  refine wpAny_Call_Name_kw (ld_glob I hg T.gC ?_)
  refine PySem.W.callWith_K (h₀ := X.base) I.ok.mod.kin T.kC (thn (ha.run pos pins s σ H _ I h) fun us s1 hh => ?_) he hpl
  obtain ⟨vs, H1, I1, r1, v, ev, q1⟩ := hh
  subst ev
  refine ⟨I1.kIn, ?_⟩
  cases r1 with
  | cons rv rn =>
    rename_i v' us'
    cases rn
    show wpAny _ _ (call (.ref C) [v']) _ _ _
    have hlim := I1.nolimit
    obtain ⟨hp, g, dr, tk, os⟩ := s1
    refine wpAny_call (PySem.RfX.rf_made T I1.kIn hlim (by have := hr.dp; omega) fun h' tk' e d M => ?_)
    show MkP X pins σ Q (.ref e) ⟨h', g, dr, tk', os⟩
    obtain ⟨oe, fv, hoe, hc, hd, hdat, h1⟩ := M.obj
    have hns := M.ns
    obtain ⟨G', g1, g2⟩ := restrict h' fun b => decide (b ≠ e)
    have gk : ∀ b, b ≠ e → G'.get? b = h'.get? b := fun b hb => g1 b (decide_eq_true hb)
    have ge : G'.get? e = none := g2 e (by simp)
    have old : ∀ b o, hp.get? b = some o → G'.get? b = some o := fun b o q => (gk b (Nat.ne_of_lt (Nat.lt_of_lt_of_le (Heap.lt_size q) M.new))).trans (M.keep b o q)
    have ob : ObjOk X.prog X.w (upd H1 d (.xd [(("code" : Str), v)])) G' d (.xd [(("code" : Str), v)]) :=
      ⟨_, hns.at (fun o q => (gk d M.dne).trans q), fun f => relO_rf rv f⟩
    have J : Inv X pins σ (upd H1 d (.xd [(("code" : Str), v)])) ⟨G', g, dr, tk', os⟩ := I1.laid (t' := tk') old M.dbig ob
    refine ⟨e, oe, fv, ⟨G', g, dr, tk', os⟩, _, .ref C, some d, rfl, J, fun b o q => ?_, ge, hoe, ⟨hc, hd⟩, hdat, h1, ?_, rfl, I1.bare, raises_own T.exC T.tyC, q1 d (I1.hok.fresh M.dbig)⟩
    · by_cases hb : b = e
      · have q' : G'.get? b = some o := q
        rw [hb, ge] at q'; cases q'
      · exact (gk b hb).symm.trans q
    · rw [upd_ne (Ne.symm M.dne)]
      exact I1.hok.fresh M.new
/-- raise Low(e) -/
def tRaiseRf (C : Addr) (W : WX) (ta : TA) : TS := fun _ σ H => tMkRf C ta σ H fun cls d H' => W cls d σ H'
theorem ps_raiseRf {a : Expr} {ta : TA} {W : WX} {p pos pos2 : Pos} {k : Nat} (hc : X.calm = true) (T : PySem.RfX.RfTxt X.K X.mg C fI) (hr : Room k X.A) (tk : Takes X W) (ha : PA X [a] ta) (hg : Gl X "Refused" := by rfl)
    (he : starEach (a :: []) X.env = (false, eval a X.env) :: starEach [] X.env := by rfl) (hpl : (backTo pos (starEach [] X.env)).any (·.1) = false := by rfl) :
    PS X (.Raise (some (.Call (.Name "Refused" p) [a] [] pos)) none pos2) (tRaiseRf C W ta) := ps_raise hc tk (pmk_rf T hr ha hg he hpl)
/-- low.by, low the exception that the suite holds (at a; its class cls, its dict d) -/
def tByRf (C : Addr) (a : Addr) (cls : Value) (d : Option Addr) (te : TE) : TE := fun σ H Q => te σ H fun x H1 => x = .ref a ∧ cls = .ref C ∧ ∃ (dd : Addr) (v : V), d = some dd ∧ H1 dd = some (.xd [(("code" : Str), v)]) ∧ Q v H1
theorem pe_byRf {a : Addr} {oe : Obj} {cls : Value} {d : Option Addr} {pn : List (Addr × Obj)} {e : Expr} {te : TE} {pos : Pos} (T : PySem.RfX.RfTxt X.K X.mg C fI) (hz : Zc cls d oe) (hf : ∃ vs, oe.data = .fields vs) (he : PE (X.suite a ((a, oe) :: pn)) e te)
    (hb : attributeBase e "code" X.env (eval e X.env) = eval e X.env := by rfl) :
    PE (X.suite a ((a, oe) :: pn)) (.Attribute e "code" pos) (tByRf C a cls d te) := by
  refine ⟨fun pins s σ H Q I h => ?_⟩
  refine attr_of hb (thn (he.run pins s σ H _ I h) fun u s1 hh => ?_)
  obtain ⟨x, H1, I1, rx, ex, ec, dd, v, ed, ea, q⟩ := hh
  subst ex
  obtain rfl : u = Value.ref a := rx
  subst ec
  subst ed
  obtain ⟨ha, _⟩ := I1.pin (a, oe) (List.mem_append_left _ List.mem_cons_self)
  obtain ⟨vs, hd⟩ := hf
  have hx : ObjOk X.prog X.w H1 s1.heap dd (.xd [(("code" : Str), v)]) := I1.hok dd _ ea
  obtain ⟨mA, hns, hr⟩ := hx
  obtain ⟨od, ho, hl⟩ := lookIn_ns hns
  have l : List.lookup ("code" : Str) [(("code" : Str), v)] = some v := by simp [List.lookup]
  obtain ⟨u, hu, ru⟩ := RelO.some_of (v := v) (o := mA "code") (by rw [← l]; exact hr "code")
  have J : PySem.W.InstAt s1.heap a oe C (some od) := ⟨ha, hz.1, by unfold PySem.W.notCls; rw [hd] <;> rfl, by rw [hz.2]; exact ho⟩
  exact HandSPX.exc_get I1.kIn J T.ga T.gg T.exC (PySem.W.findObj_own T.hdC T.noN rfl (by rw [hl, hu])) (handed_of ru) ⟨v, H1, I1.tok _, ru, q⟩
end
end L2

namespace L2
open PySem PySem.Spec PyProof.Rows
/-- an if whose test is known -/
theorem if_true_of {c : Bool} {A B : Prop} (hc : c = true) (h : A) : if c = true then A else B := by
  rw [if_pos hc]
  exact h
theorem if_false_of {c : Bool} {A B : Prop} (hc : c = false) (h : B) : if c = true then A else B := by
  rw [hc, if_neg Bool.false_ne_true]
  exact h
end L2
namespace Dk
open PySem PySem.Spec PyProof.Rows L2
/-! ### words of this proof -/
/-- a def that keeps its promise, and takes its arguments in their order -/
def Def (P : Program) (w : World) (K : PySem.W.Frag) (mg : Str → Option Value) (base : Heap) (CX : CXT) (k : Nat) (f : Addr) (ps : List Str) (sp : Sp) : Prop :=
  ∃ fd : FuncData, FnOk P w K mg base CX k f fd ps sp ∧ Binds K fd ps []
/-- a def of the module, by its name -/
structure Nam (K : PySem.W.Frag) (mg : Str → Option Value) (x : Str) (f : Addr) : Prop where
  g : mg x = some (.ref f)
  kp : PySem.W.keepIn K (.ref f) = true
def Cal (P : Program) (w : World) (K : PySem.W.Frag) (mg : Str → Option Value) (base : Heap) (CX : CXT) (k : Nat) (x : Str) (ps : List Str) (sp : Sp) : Prop :=
  ∃ f : Addr, Def P w K mg base CX k f ps sp ∧ Nam K mg x f
def CalM (P : Program) (w : World) (K : PySem.W.Frag) (mg : Str → Option Value) (base : Heap) (CX : CXT) (k : Nat) (C : Addr) (m : Str) (ps : List Str) (sp : Sp) : Prop :=
  ∃ f : Addr, Def P w K mg base CX k f ps sp ∧ Meth K C m f
def CalI (P : Program) (w : World) (K : PySem.W.Frag) (mg : Str → Option Value) (base : Heap) (CX : CXT) (k : Nat) (C : Addr) (ps : List Str) (sp : Sp) : Prop :=
  ∃ f : Addr, Def P w K mg base CX k f ps sp ∧ Mk K C f
/-- a whole number of the module, by its name -/
def Num (mg : Str → Option Value) (x : Str) (i : Int) : Prop := ∃ t, mg x = some (.int i t)
section
variable {X : Cx} {CX : CXT} {k : Nat} {f C : Addr} {ps : List Str} {sp : Sp} {E : XK} {x m : Str} {p pos apos : Pos} {e o : Expr} {es : List Expr} {ta : TE} {t : TA}
theorem pe_num {i : Int} (hg : Gl X x) (h : Num X.mg x i) (hd : (x == ("__debug__" : Str)) = false := by decide) : PE X (.Name x pos) (tC (.int i)) := by
  obtain ⟨t, h⟩ := h
  exact pe_glob hg h ⟨t, rfl⟩ hd
theorem pe_cd (c : Cal X.prog X.w X.K X.mg X.base CX k x ps sp) (hr : Room k X.A) (hg : Gl X x) (hx : Passes CX X E)
    (ha : PA X (e :: es) t) (hdb : (x == ("__debug__" : Str)) = false := by decide) (he : starEach (e :: es) X.env = (false, eval e X.env) :: starEach es X.env := by rfl) (hpl : (backTo pos (starEach es X.env)).any (·.1) = false := by rfl) :
    PE X (.Call (.Name x p) (e :: es) [] pos) (tCall sp [] E t) := by
  obtain ⟨f, ⟨fd, F, b⟩, n⟩ := c
  exact pe_call F hr hg n.g n.kp b .nil hx ha hdb he hpl
theorem pe_cdS {E : L2.St → XK} (c : Cal X.prog X.w X.K X.mg X.base CX k x ps sp) (hr : Room k X.A) (hg : Gl X x) (hx : ∀ σ, PassesAt CX X σ (E σ))
    (ha : PA X (e :: es) t) (hdb : (x == ("__debug__" : Str)) = false := by decide) (he : starEach (e :: es) X.env = (false, eval e X.env) :: starEach es X.env := by rfl) (hpl : (backTo pos (starEach es X.env)).any (·.1) = false := by rfl) :
    PE X (.Call (.Name x p) (e :: es) [] pos) (tCallS sp E t) := by
  obtain ⟨f, ⟨fd, F, b⟩, n⟩ := c
  exact pe_callS F hr hg n.g n.kp b hx ha hdb he hpl
theorem pe_mkd (c : CalI X.prog X.w X.K X.mg X.base CX k C ps sp) (hr : Room (k + 1) X.A) (hg : Gl X x) (g : X.mg x = some (.ref C)) (hx : Passes CX X E)
    (ha : PA X (e :: es) t) (hdb : (x == ("__debug__" : Str)) = false := by decide) (he : starEach (e :: es) X.env = (false, eval e X.env) :: starEach es X.env := by rfl) (hpl : (backTo pos (starEach es X.env)).any (·.1) = false := by rfl) :
    PE X (.Call (.Name x p) (e :: es) [] pos) (tMake C sp [] E t) := by
  obtain ⟨f, ⟨fd, F, b⟩, M⟩ := c
  exact pe_make M F hr hg g b .nil hx ha hdb he hpl
theorem pe_mkd0 (c : CalI X.prog X.w X.K X.mg X.base CX k C ps sp) (hr : Room (k + 1) X.A) (hg : Gl X x) (g : X.mg x = some (.ref C)) (hx : Passes CX X E)
    (hdb : (x == ("__debug__" : Str)) = false := by decide) : PE X (.Call (.Name x p) [] [] pos) (tMake C sp [] E tNil) := by
  obtain ⟨f, ⟨fd, F, b⟩, M⟩ := c
  exact pe_make0 M F hr hg g b .nil hx hdb
theorem pe_md {pl : Sem Bool} (he : PE X o ta) (cl : Cls X.K C) (c : CalM X.prog X.w X.K X.mg X.base CX k C m ps sp) (hr : Room k X.A) (hx : Passes CX X E) (ha : PA X (e :: es) t)
    (hst : starEach (e :: es) X.env = (false, eval e X.env) :: starEach es X.env := by rfl) (hpl : (backTo pos (starEach es X.env)).any (·.1) = false := by rfl)
    (ht : eval (.Call (.Attribute o m apos) (e :: es) [] pos) X.env = (do
      let ov ← eval o X.env
      standAt apos.atName
      let (f, first) ← holding [ov] (getMethod ov m pl)
      callWith pos f first (backTo pos (starEach (e :: es) X.env)) (backToKw pos (keywordEach [] X.env))) := by rfl) :
    PE X (.Call (.Attribute o m apos) (e :: es) [] pos) (tMeth C m sp [] E ta t) := by
  obtain ⟨f, ⟨fd, F, b⟩, M⟩ := c
  exact pe_meth he cl M F hr b .nil hx ha hst hpl ht
end
/-- a raising def's way on for what its callees raise -/
theorem passX {P : Program} {w : World} {K : PySem.W.Frag} {mg : Str → Option Value} {base : Heap} {N : List Str} {qual : Str} {scope : Scope} {f : Addr} {cd : Value} {A : Around} {outer : List Env} {s : Shared} {H : Hp} {E : XK} :
    Passes (L2.CX P w) (cxOf (L2.CX P w) P w K mg base N qual scope f cd A outer s H E) E := passes_call (takes_of rfl rfl rfl rfl) (fun _ _ _ _ h => h)
/-- what ends a def's proof: where it stands -/
def FunAt (K : PySem.W.Frag) (x qual : Str) (st : Stmt) (f : Addr) : Prop := ∃ fd : FuncData, Fun K x qual st f fd
/-! ### the text by places -/
def top (i : Nat) : Stmt := PySem.Challenge.pw_dikeland_s01_answers.main.body.getD i (.Pass ⟨0, 0, 0, 0⟩)
abbrev sDikeI : Stmt := inClass (top 6) 0
abbrev sLandI : Stmt := inClass (top 7) 0
abbrev sFlooded : Stmt := inClass (top 7) 1
abbrev sDryUp : Stmt := inClass (top 7) 2
abbrev sKeptI : Stmt := inClass (top 9) 0
abbrev sHas : Stmt := top 10
abbrev sLower : Stmt := top 11
abbrev sPrice : Stmt := top 12
abbrev sLeast : Stmt := top 13
abbrev sHeight : Stmt := top 14
abbrev sCallI : Stmt := inClass (top 29) 0
abbrev sLineI : Stmt := inClass (top 30) 0
abbrev sCallAt : Stmt := top 31
abbrev sRefuse : Stmt := top 32
abbrev sBegins : Stmt := top 33
abbrev sNewDike : Stmt := top 34
abbrev sFloods : Stmt := top 35
abbrev sDry : Stmt := top 36
abbrev sAskKept : Stmt := top 37
abbrev sRaiseTo : Stmt := top 38
abbrev sForMoney : Stmt := top 39
abbrev sTold : Stmt := top 40
abbrev sToldOr : Stmt := top 41
abbrev sAnswers : Stmt := top 42
/-! ### where the classes stand -/
structure Ad where
  CD : Addr
  CL : Addr
  CK : Addr
  CR : Addr
  CC : Addr
  CN : Addr
  iR : Addr
  nums : Addr
/-! ### the heap -/
theorem lk_here {k : Str} {v : V} {r : List (Str × V)} : List.lookup k ((k, v) :: r) = some v := by
  have e : (k == k) = true := beq_self_eq_true k
  simp only [List.lookup, e]
theorem lk_past {k g : Str} {v : V} {r : List (Str × V)} (h : (k == g) = false) : List.lookup k ((g, v) :: r) = List.lookup k r := by
  simp only [List.lookup, h]
theorem put_here {f : Str} {v x : V} {r : List (Str × V)} : putF f v ((f, x) :: r) = (f, v) :: r := if_pos rfl
theorem put_past {f g : Str} {v x : V} {r : List (Str × V)} (h : ¬ g = f) : putF f v ((g, x) :: r) = (g, x) :: putF f v r := if_neg h
abbrev iv (n : Nat) : V := .int (n : Int)
def dF (d : Si98.Dike) : List (Str × V) := [("one", iv d.a), ("other", iv d.b), ("height", iv d.high), ("cost", iv d.cost)]
theorem dF_one (d : Si98.Dike) : (dF d).lookup ("one" : Str) = some (iv d.a) := lk_here
theorem dF_other (d : Si98.Dike) : (dF d).lookup ("other" : Str) = some (iv d.b) := (lk_past (by decide +kernel)).trans lk_here
theorem dF_height (d : Si98.Dike) : (dF d).lookup ("height" : Str) = some (iv d.high) := (lk_past (by decide +kernel)).trans ((lk_past (by decide +kernel)).trans lk_here)
theorem dF_cost (d : Si98.Dike) : (dF d).lookup ("cost" : Str) = some (iv d.cost) := (lk_past (by decide +kernel)).trans ((lk_past (by decide +kernel)).trans ((lk_past (by decide +kernel)).trans lk_here))
theorem dF_new (d : Si98.Dike) : putF "cost" (iv d.cost) (putF "height" (iv d.high) (putF "other" (iv d.b) (putF "one" (iv d.a) []))) = dF d := by
  have e1 : putF "other" (iv d.b) (putF "one" (iv d.a) []) = ([("one", iv d.a), ("other", iv d.b)] : List (Str × V)) := (put_past (by decide +kernel)).trans rfl
  have e2 : putF "height" (iv d.high) ([("one", iv d.a), ("other", iv d.b)] : List (Str × V)) = ([("one", iv d.a), ("other", iv d.b), ("height", iv d.high)] : List (Str × V)) := (put_past (by decide +kernel)).trans (congrArg _ ((put_past (by decide +kernel)).trans rfl))
  have e3 : putF "cost" (iv d.cost) ([("one", iv d.a), ("other", iv d.b), ("height", iv d.high)] : List (Str × V)) = dF d := (put_past (by decide +kernel)).trans (congrArg _ ((put_past (by decide +kernel)).trans (congrArg _ ((put_past (by decide +kernel)).trans rfl))))
  rw [e1, e2, e3]
def lF (n : Nat) (l : Addr) : List (Str × V) := [("many", iv n), ("dikes", .ref l)]
theorem lF_many (n : Nat) (l : Addr) : (lF n l).lookup ("many" : Str) = some (iv n) := lk_here
theorem lF_dikes (n : Nat) (l : Addr) : (lF n l).lookup ("dikes" : Str) = some (.ref l) := (lk_past (by decide +kernel)).trans lk_here
theorem lF_flooded (n : Nat) (l : Addr) : (lF n l).lookup ("flooded" : Str) = none := (lk_past (by decide +kernel)).trans ((lk_past (by decide +kernel)).trans rfl)
theorem lF_dryup (n : Nat) (l : Addr) : (lF n l).lookup ("dry_up_to" : Str) = none := (lk_past (by decide +kernel)).trans ((lk_past (by decide +kernel)).trans rfl)
theorem lF_new (n : Nat) (l : Addr) : putF "dikes" (.ref l) (putF "many" (iv n) []) = lF n l := (put_past (by decide +kernel)).trans rfl
def kF (b : Si98.Best) : List (Str × V) := [("price", iv b.cost), ("many", iv b.many), ("number", iv b.set_)]
theorem kF_price (b : Si98.Best) : (kF b).lookup ("price" : Str) = some (iv b.cost) := lk_here
theorem kF_many (b : Si98.Best) : (kF b).lookup ("many" : Str) = some (iv b.many) := (lk_past (by decide +kernel)).trans lk_here
theorem kF_number (b : Si98.Best) : (kF b).lookup ("number" : Str) = some (iv b.set_) := (lk_past (by decide +kernel)).trans ((lk_past (by decide +kernel)).trans lk_here)
theorem kF_new (b : Si98.Best) : putF "number" (iv b.set_) (putF "many" (iv b.many) (putF "price" (iv b.cost) [])) = kF b := by
  have e1 : putF "many" (iv b.many) (putF "price" (iv b.cost) []) = ([("price", iv b.cost), ("many", iv b.many)] : List (Str × V)) := (put_past (by decide +kernel)).trans rfl
  have e2 : putF "number" (iv b.set_) ([("price", iv b.cost), ("many", iv b.many)] : List (Str × V)) = kF b := (put_past (by decide +kernel)).trans (congrArg _ ((put_past (by decide +kernel)).trans rfl))
  rw [e1, e2]
theorem kF_pmany (b : Si98.Best) (n : Nat) : putF "many" (iv n) (kF b) = kF { b with many := n } := (put_past (by decide +kernel)).trans (congrArg _ put_here)
theorem kF_pnumber (b : Si98.Best) (n : Nat) : putF "number" (iv n) (kF b) = kF { b with set_ := n } := (put_past (by decide +kernel)).trans (congrArg _ ((put_past (by decide +kernel)).trans (congrArg _ put_here)))
def cF (k : Int) (s : Addr) (e : Nat) : List (Str × V) := [("kind", .int k), ("some", .ref s), ("behind", iv e)]
theorem cF_kind (k : Int) (s : Addr) (e : Nat) : (cF k s e).lookup ("kind" : Str) = some (.int k) := lk_here
theorem cF_some (k : Int) (s : Addr) (e : Nat) : (cF k s e).lookup ("some" : Str) = some (.ref s) := (lk_past (by decide +kernel)).trans lk_here
theorem cF_behind (k : Int) (s : Addr) (e : Nat) : (cF k s e).lookup ("behind" : Str) = some (iv e) := (lk_past (by decide +kernel)).trans ((lk_past (by decide +kernel)).trans lk_here)
theorem cF_new (k : Int) (s : Addr) (e : Nat) : putF "behind" (iv e) (putF "some" (.ref s) (putF "kind" (.int k) [])) = cF k s e := by
  have e1 : putF "some" (.ref s) (putF "kind" (.int k) []) = ([("kind", .int k), ("some", .ref s)] : List (Str × V)) := (put_past (by decide +kernel)).trans rfl
  have e2 : putF "behind" (iv e) ([("kind", .int k), ("some", .ref s)] : List (Str × V)) = cF k s e := (put_past (by decide +kernel)).trans (congrArg _ ((put_past (by decide +kernel)).trans rfl))
  rw [e1, e2]
def nF (p : Addr) : List (Str × V) := [("land", .ref p)]
theorem nF_land (p : Addr) : (nF p).lookup ("land" : Str) = some (.ref p) := lk_here
theorem nF_put (p q : Addr) : putF "land" (.ref q) (nF p) = nF q := put_here

def DikeAt (a : Ad) (H : Hp) (p : Addr) (d : Si98.Dike) : Prop := ∃ dx, H p = some (.ins a.CD dx (dF d))
/-- the dikes of a land, one behind another, at the addresses ps -/
def DikesAt (a : Ad) (H : Hp) (ps : List Addr) (ds : List Si98.Dike) : Prop := ps.length = ds.length ∧ ∀ (i : Nat) (d : Si98.Dike), ds[i]? = some d → ∃ p, ps[i]? = some p ∧ DikeAt a H p d
/-- a land at p, its list of dikes at l -/
def LandAt (a : Ad) (H : Hp) (p l : Addr) (L : Si98.Land) : Prop := (∃ dx, H p = some (.ins a.CL dx (lF L.count l))) ∧ ∃ ps : List Addr, H l = some (.lst (ps.map V.ref)) ∧ DikesAt a H ps L.dikes
def KeptAt (a : Ad) (H : Hp) (p : Addr) (b : Si98.Best) : Prop := ∃ dx, H p = some (.ins a.CK dx (kF b))
def LineAt (a : Ad) (H : Hp) (n p l : Addr) (L : Si98.Land) : Prop := (∃ dx, H n = some (.ins a.CN dx (nF p))) ∧ LandAt a H p l L
theorem DikesAt.same {a : Ad} {H H' : Hp} {ps : List Addr} {ds : List Si98.Dike} (h : DikesAt a H ps ds) (s : ∀ p d, DikeAt a H p d → DikeAt a H' p d) : DikesAt a H' ps ds :=
  ⟨h.1, fun i d e => let ⟨p, h1, h2⟩ := h.2 i d e; ⟨p, h1, s p d h2⟩⟩
theorem LandAt.same {a : Ad} {H H' : Hp} {p l : Addr} {L : Si98.Land} (h : LandAt a H p l L) (s : Same H H') : LandAt a H' p l L := by
  obtain ⟨⟨dx, h1⟩, ps, h2, h3⟩ := h
  exact ⟨⟨dx, s _ _ h1⟩, ps, s _ _ h2, h3.same fun q d ⟨dy, h4⟩ => ⟨dy, s _ _ h4⟩⟩
theorem LineAt.same {a : Ad} {H H' : Hp} {n p l : Addr} {L : Si98.Land} (h : LineAt a H n p l L) (s : Same H H') : LineAt a H' n p l L := by
  obtain ⟨⟨dx, h1⟩, h2⟩ := h
  exact ⟨⟨dx, s _ _ h1⟩, h2.same s⟩
/-- a new thing beside all that was tracked -/
theorem Same.new {H : Hp} {p : Addr} {o : HO} (h : H p = none) : Same H (upd H p o) := fun b u e => by
  rw [upd_ne (ne_of_none e h)]
  exact e
/-- what is new there may be changed -/
theorem Same.over {H H' : Hp} {p : Addr} {o : HO} (s : Same H H') (h : H p = none) : Same H (upd H' p o) := fun b u e => by
  rw [upd_ne (ne_of_none e h)]
  exact s b u e
theorem if_true_of {c : Bool} {A B : Prop} (hc : c = true) (h : A) : if c = true then A else B := by
  rw [if_pos hc]
  exact h
theorem if_false_of {c : Bool} {A B : Prop} (hc : c = false) (h : B) : if c = true then A else B := by
  rw [hc, if_neg Bool.false_ne_true]
  exact h
theorem small {n : Nat} (h : n ≤ 10000000) : n < sizeLine := Nat.lt_of_le_of_lt h (by decide)
/-! ### what the top has written -/
structure Txt (K : PySem.W.Frag) (mg : Str → Option Value) (a : Ad) : Prop where
  clD : Cls K a.CD
  clL : Cls K a.CL
  clK : Cls K a.CK
  clC : Cls K a.CC
  clN : Cls K a.CN
  gD : mg "Dike" = some (.ref a.CD)
  gL : mg "Land" = some (.ref a.CL)
  gK : mg "Kept" = some (.ref a.CK)
  gC : mg "Call" = some (.ref a.CC)
  gN : mg "Line" = some (.ref a.CN)
  nD1 : NoAttr K a.CD "one"
  nD2 : NoAttr K a.CD "other"
  nD3 : NoAttr K a.CD "height"
  nD4 : NoAttr K a.CD "cost"
  nL1 : NoAttr K a.CL "many"
  nL2 : NoAttr K a.CL "dikes"
  nK1 : NoAttr K a.CK "price"
  nK2 : NoAttr K a.CK "many"
  nK3 : NoAttr K a.CK "number"
  nC1 : NoAttr K a.CC "kind"
  nC2 : NoAttr K a.CC "some"
  nC3 : NoAttr K a.CC "behind"
  nN1 : NoAttr K a.CN "land"
  rf : PySem.RfX.RfTxt K mg a.CR a.iR
  cCOMP : Num mg "MOST_COMPARTMENTS" 7
  cDIKES : Num mg "MOST_DIKES" 12
  cHEIGHT : Num mg "MOST_HEIGHT" 100
  cCOST : Num mg "MOST_COST" 1000
  cSEA : Num mg "SEA" 0
  cBEGINS : Num mg "BEGINS" 0
  cDIKE : Num mg "DIKE" 1
  cFLOODS : Num mg "FLOODS" 2
  cDRY : Num mg "DRY" 3
  cRAISE : Num mg "RAISE_TO" 4
  cNOTSO : Num mg "NOT_SO" (-1)
  cNONE : Num mg "NONE_SUCH" (-2)
  cWRONG : Num mg "WRONG" (-4)
  cFULL : Num mg "FULL" (-5)
  cALWAYS : Num mg "ALWAYS" (-6)
  cMONEY : Num mg "MOST_MONEY" 1000000
  gNums : mg "NUMBERS_OF" = some (.ref a.nums)
  lNums : ∀ H : Hp, SqT K H a.nums (numbersOf.map V.int)
  bLen : mg "len" = none
  bRange : mg "range" = none
  bEnum : mg "enumerate" = none
  bSum : mg "sum" = none
  bMin : mg "min" = none
  bSorted : mg "sorted" = none
end Dk
namespace Dk
open PySem PySem.Spec PyProof.Rows L2
section
variable {P : Program} {w : World} {K : PySem.W.Frag} {mg : Str → Option Value} {base : Heap} {a : Ad}
/-! ### Dike.__init__ -/
def spDikeI (a : Ad) : Sp := fun vs H Q _ => ∃ (p dx : Addr) (d : Si98.Dike), vs = [.ref p, iv d.a, iv d.b, iv d.high, iv d.cost] ∧ H p = some (.ins a.CD dx []) ∧
  ∀ H' : Hp, DikeAt a H' p d → (∀ b o, H b = some o → b ≠ p → H' b = some o) → Q .non H'
theorem scDI : FnScope ["self", "one", "other", "height", "cost"] ["self", "one", "other", "height", "cost"] (defScope sDikeI) := ⟨rfl, rfl, rfl, by decide +kernel, rfl, by decide +kernel, by decide +kernel⟩
theorem ok_dikeI {f : Addr} (F : FunAt K "__init__" "Dike.__init__" sDikeI f) (M : Mk K a.CD f) (T : Txt K mg a) : CalI P w K mg base CX0 1 a.CD ["self", "one", "other", "height", "cost"] (spDikeI a) := by
  obtain ⟨fd, F⟩ := F
  refine ⟨f, ⟨fd, ?_, F.binds fun _ _ _ _ _ _ us hl => match us, hl with | [_, _, _, _, _], _ => rfl⟩, M⟩
  refine F.ok scDI (fun vs H Q E h => ?_) (fun cdv A outer s H vs Q E hr h => ⟨_, pss_cons (ps_fld (pv 0) (pv 1) rfl) (pss_cons (ps_fld (pv 0) (pv 2) rfl) (pss_cons (ps_fld (pv 0) (pv 3) rfl) (pss_one (ps_fld (pv 0) (pv 4) rfl)))), ?_⟩)
  · obtain ⟨p, dx, d, rfl, _⟩ := h
    rfl
  · obtain ⟨p, dx, d, rfl, hp, k⟩ := h
    refine ⟨_, rfl, _, rfl, p, a.CD, dx, [], rfl, hp, T.clD, T.nD1, (by show 0 < 1000; decide), ?_⟩
    refine ⟨_, rfl, _, rfl, p, a.CD, dx, _, rfl, upd_same, T.clD, T.nD2, (by show 1 < 1000; decide), ?_⟩
    refine ⟨_, rfl, _, rfl, p, a.CD, dx, _, rfl, upd_same, T.clD, T.nD3, (by show 2 < 1000; decide), ?_⟩
    refine ⟨_, rfl, _, rfl, p, a.CD, dx, _, rfl, upd_same, T.clD, T.nD4, (by show 3 < 1000; decide), ?_⟩
    refine k _ ⟨dx, Eq.trans upd_same (congrArg (fun q => some (HO.ins a.CD dx q)) (dF_new d))⟩ fun b o e hb => ?_
    rw [upd_ne hb, upd_ne hb, upd_ne hb, upd_ne hb]
    exact e
/-! ### Kept.__init__ -/
def spKeptI (a : Ad) : Sp := fun vs H Q _ => ∃ (p dx : Addr) (d : Si98.Best), vs = [.ref p, iv d.cost, iv d.many, iv d.set_] ∧ H p = some (.ins a.CK dx []) ∧
  ∀ H' : Hp, KeptAt a H' p d → (∀ b o, H b = some o → b ≠ p → H' b = some o) → Q .non H'
theorem scKI : FnScope ["self", "price", "many", "number"] ["self", "price", "many", "number"] (defScope sKeptI) := ⟨rfl, rfl, rfl, by decide +kernel, rfl, by decide +kernel, by decide +kernel⟩
theorem ok_keptI {f : Addr} (F : FunAt K "__init__" "Kept.__init__" sKeptI f) (M : Mk K a.CK f) (T : Txt K mg a) : CalI P w K mg base CX0 1 a.CK ["self", "price", "many", "number"] (spKeptI a) := by
  obtain ⟨fd, F⟩ := F
  refine ⟨f, ⟨fd, ?_, F.binds fun _ _ _ _ _ _ us hl => match us, hl with | [_, _, _, _], _ => rfl⟩, M⟩
  refine F.ok scKI (fun vs H Q E h => ?_) (fun cdv A outer s H vs Q E hr h => ⟨_, pss_cons (ps_fld (pv 0) (pv 1) rfl) (pss_cons (ps_fld (pv 0) (pv 2) rfl) (pss_one (ps_fld (pv 0) (pv 3) rfl))), ?_⟩)
  · obtain ⟨p, dx, d, rfl, _⟩ := h
    rfl
  · obtain ⟨p, dx, d, rfl, hp, k⟩ := h
    refine ⟨_, rfl, _, rfl, p, a.CK, dx, [], rfl, hp, T.clK, T.nK1, (by show 0 < 1000; decide), ?_⟩
    refine ⟨_, rfl, _, rfl, p, a.CK, dx, _, rfl, upd_same, T.clK, T.nK2, (by show 1 < 1000; decide), ?_⟩
    refine ⟨_, rfl, _, rfl, p, a.CK, dx, _, rfl, upd_same, T.clK, T.nK3, (by show 2 < 1000; decide), ?_⟩
    refine k _ ⟨dx, Eq.trans upd_same (congrArg (fun q => some (HO.ins a.CK dx q)) (kF_new d))⟩ fun b o e hb => ?_
    rw [upd_ne hb, upd_ne hb, upd_ne hb]
    exact e
/-! ### Call.__init__ -/
def spCallI (a : Ad) : Sp := fun vs H Q _ => ∃ (p dx s : Addr) (z : Int) (e : Nat), vs = [.ref p, .int z, .ref s, iv e] ∧ H p = some (.ins a.CC dx []) ∧
  ∀ H' : Hp, H' p = some (.ins a.CC dx (cF z s e)) → (∀ b o, H b = some o → b ≠ p → H' b = some o) → Q .non H'
theorem scCI : FnScope ["self", "kind", "numbers", "behind"] ["self", "kind", "numbers", "behind"] (defScope sCallI) := ⟨rfl, rfl, rfl, by decide +kernel, rfl, by decide +kernel, by decide +kernel⟩
theorem ok_callI {f : Addr} (F : FunAt K "__init__" "Call.__init__" sCallI f) (M : Mk K a.CC f) (T : Txt K mg a) : CalI P w K mg base CX0 1 a.CC ["self", "kind", "numbers", "behind"] (spCallI a) := by
  obtain ⟨fd, F⟩ := F
  refine ⟨f, ⟨fd, ?_, F.binds fun _ _ _ _ _ _ us hl => match us, hl with | [_, _, _, _], _ => rfl⟩, M⟩
  refine F.ok scCI (fun vs H Q E h => ?_) (fun cdv A outer s H vs Q E hr h => ⟨_, pss_cons (ps_fld (pv 0) (pv 1) rfl) (pss_cons (ps_fld (pv 0) (pv 2) rfl) (pss_one (ps_fld (pv 0) (pv 3) rfl))), ?_⟩)
  · obtain ⟨p, dx, s, z, e, rfl, _⟩ := h
    rfl
  · obtain ⟨p, dx, s, z, e, rfl, hp, k⟩ := h
    refine ⟨_, rfl, _, rfl, p, a.CC, dx, [], rfl, hp, T.clC, T.nC1, (by show 0 < 1000; decide), ?_⟩
    refine ⟨_, rfl, _, rfl, p, a.CC, dx, _, rfl, upd_same, T.clC, T.nC2, (by show 1 < 1000; decide), ?_⟩
    refine ⟨_, rfl, _, rfl, p, a.CC, dx, _, rfl, upd_same, T.clC, T.nC3, (by show 2 < 1000; decide), ?_⟩
    refine k _ (Eq.trans upd_same (congrArg (fun q => some (HO.ins a.CC dx q)) (cF_new z s e))) fun b o e hb => ?_
    rw [upd_ne hb, upd_ne hb, upd_ne hb]
    exact e
/-! ### Land.__init__ -/
def spLandI (a : Ad) : Sp := fun vs H Q _ => ∃ (p dx : Addr) (n : Nat), vs = [.ref p, iv n] ∧ H p = some (.ins a.CL dx []) ∧
  ∀ (H' : Hp) (l : Addr), H l = none → LandAt a H' p l ⟨n, []⟩ → (∀ b o, H b = some o → b ≠ p → H' b = some o) → Q .non H'
theorem scLI : FnScope ["self", "many"] ["self", "many"] (defScope sLandI) := ⟨rfl, rfl, rfl, by decide +kernel, rfl, by decide +kernel, by decide +kernel⟩
theorem ok_landI {f : Addr} (F : FunAt K "__init__" "Land.__init__" sLandI f) (M : Mk K a.CL f) (T : Txt K mg a) : CalI P w K mg base CX0 1 a.CL ["self", "many"] (spLandI a) := by
  obtain ⟨fd, F⟩ := F
  refine ⟨f, ⟨fd, ?_, F.binds fun _ _ _ _ _ _ us hl => match us, hl with | [_, _], _ => rfl⟩, M⟩
  refine F.ok scLI (fun vs H Q E h => ?_) (fun cdv A outer s H vs Q E hr h => ⟨_, pss_cons (ps_fld (pv 0) (pv 1) rfl) (pss_one (ps_fld (pv 0) (pe_lst pa_nil) rfl)), ?_⟩)
  · obtain ⟨p, dx, n, rfl, _⟩ := h
    rfl
  · obtain ⟨p, dx, n, rfl, hp, k⟩ := h
    refine ⟨_, rfl, _, rfl, p, a.CL, dx, [], rfl, hp, T.clL, T.nL1, (by show 0 < 1000; decide), ?_⟩
    refine ⟨(by show 0 ≤ sizeLine; decide), fun l hl => ?_⟩
    have hlp : l ≠ p := fun e => by
      rw [e, upd_same] at hl
      cases hl
    have hl0 : H l = none := by
      rw [upd_ne hlp] at hl
      exact hl
    refine ⟨_, rfl, p, a.CL, dx, _, rfl, (upd_ne (Ne.symm hlp)).trans upd_same, T.clL, T.nL2, (by show 1 < 1000; decide), ?_⟩
    refine k _ l hl0 ⟨⟨dx, Eq.trans upd_same (congrArg (fun q => some (HO.ins a.CL dx q)) (lF_new n l))⟩, [], (upd_ne hlp).trans upd_same, rfl, fun i d e => by simp at e⟩ fun b o e hb => ?_
    rw [upd_ne hb, upd_ne (ne_of_none e hl0), upd_ne hb]
    exact e
/-! ### Line.__init__ -/
def spLineI (a : Ad) : Sp := fun vs H Q _ => ∃ (p dx : Addr), vs = [.ref p] ∧ H p = some (.ins a.CN dx []) ∧
  ∀ (H' : Hp) (q l : Addr), H q = none → H l = none → LineAt a H' p q l ⟨1, []⟩ → (∀ b o, H b = some o → b ≠ p → H' b = some o) → Q .non H'
theorem scNI : FnScope ["self"] ["self"] (defScope sLineI) := ⟨rfl, rfl, rfl, by decide +kernel, rfl, by decide +kernel, by decide +kernel⟩
theorem ok_lineI {f : Addr} (F : FunAt K "__init__" "Line.__init__" sLineI f) (M : Mk K a.CN f) (T : Txt K mg a) (cL : CalI P w K mg base CX0 1 a.CL ["self", "many"] (spLandI a)) : CalI P w K mg base CX0 3 a.CN ["self"] (spLineI a) := by
  obtain ⟨fd, F⟩ := F
  refine ⟨f, ⟨fd, ?_, F.binds fun _ _ _ _ _ _ us hl => match us, hl with | [_], _ => rfl⟩, M⟩
  refine F.ok scNI (fun vs H Q E h => ?_) (fun cdv A outer s H vs Q E hr h => ⟨_, pss_one (ps_fld (pv 0) (pe_mkd cL hr rfl T.gL pass0 (pa_cons pe_int pa_nil)) rfl), ?_⟩)
  · obtain ⟨p, dx, rfl, _⟩ := h
    rfl
  · obtain ⟨p, dx, rfl, hp, k⟩ := h
    intro x dy nx nd ne
    refine ⟨x, dy, 1, rfl, upd_same, fun H1 l hl LA kp => ⟨rfl, ?_⟩⟩
    have hlx : l ≠ x := fun e => by
      rw [e, upd_same] at hl
      cases hl
    have hl0 : H l = none := by
      rw [upd_ne hlx] at hl
      by_cases c : l = dy
      · rw [c]
        exact nd
      · rw [upd_ne c] at hl
        exact hl
    have s1 : Same H H1 := Same.made nx nd kp
    obtain ⟨⟨dz, q1⟩, ps, q2, q3, q4⟩ := LA
    have hxp : x ≠ p := Ne.symm (ne_of_none hp nx)
    have hlp : l ≠ p := Ne.symm (ne_of_none hp hl0)
    have hps : ps = [] := List.eq_nil_of_length_eq_zero q3
    subst hps
    refine ⟨_, rfl, p, a.CN, dx, _, rfl, s1 _ _ hp, T.clN, T.nN1, (by show 0 < 1000; decide), ?_⟩
    refine k _ x l nx hl0 ⟨⟨dx, upd_same⟩, ⟨dz, (upd_ne hxp).trans q1⟩, [], (upd_ne hlp).trans q2, rfl, fun i d e => by simp at e⟩ fun b o e hb => ?_
    rw [upd_ne hb]
    exact s1 b o e
end
end Dk
namespace Dk
open PySem PySem.Spec PyProof.Rows L2
theorem flat_iv (fs : List Nat) : (fs.map iv).all flatV = true := by
  induction fs with
  | nil => rfl
  | cons x r ih => rw [List.map_cons, List.all_cons, ih]; rfl
theorem inV_iv (v : Nat) (fs : List Nat) : inV (iv v) (fs.map iv) = fs.contains v := by
  unfold inV
  induction fs with
  | nil => rfl
  | cons x r ih =>
    rw [List.map_cons, List.any_cons, ih, List.contains_cons]
    congr 1
    show ((x : Int) == (v : Int)) = (v == x)
    rw [Bool.eq_iff_iff, beq_iff_eq, beq_iff_eq]
    omega
theorem dec_iv (m n : Nat) : decide (iv m = iv n) = decide (m = n) := by
  rw [decide_eq_decide]
  constructor
  · intro h
    injection h with h
    omega
  · intro h
    rw [h]
theorem map_get {fs : List Nat} {i u : Nat} (h : fs[i]? = some u) : (fs.map iv)[i]? = some (iv u) := by
  rw [List.getElem?_map, h]
  rfl
section
variable {P : Program} {w : World} {K : PySem.W.Frag} {mg : Str → Option Value} {base : Heap} {a : Ad}
/-! ### Land.flooded -/
def spFlooded (a : Ad) : Sp := fun vs H Q _ => ∃ (p l : Addr) (L : Si98.Land) (h : Nat), vs = [.ref p, iv h] ∧ LandAt a H p l L ∧ WF L ∧
  ∀ (H' : Hp) (q : Addr) (fs : List Nat), Same H H' → H q = none → H' q = some (.lst (fs.map iv)) → Found L h fs → ClosedTo L h fs fs.length → Q (.ref q) H'
theorem scFl : FnScope ["self", "height", "found", "at", "dike", "side", "far"] ["self", "height"] (defScope sFlooded) := ⟨rfl, rfl, rfl, by decide +kernel, rfl, by decide +kernel, by decide +kernel⟩
theorem ok_flooded {f : Addr} (F : FunAt K "flooded" "Land.flooded" sFlooded f) (M : Meth K a.CL "flooded" f) (T : Txt K mg a) : CalM P w K mg base CX0 1 a.CL "flooded" ["self", "height"] (spFlooded a) := by
  obtain ⟨fd, F⟩ := F
  refine ⟨f, ⟨fd, ?_, F.binds fun _ _ _ _ _ _ us hl => match us, hl with | [_, _], _ => rfl⟩, M⟩
  refine F.ok scFl (fun vs H Q E h => ?_) (fun cdv A outer s H vs Q E hr h => ⟨_,
    pss_cons (ps_set (i := 2) scFl.nd rfl (Or.inl rfl) (pe_lst (pa_cons (pe_num rfl T.cSEA) pa_nil)))
    (pss_cons (ps_set (i := 3) scFl.nd rfl (Or.inl rfl) pe_int)
    (pss_cons (ps_while PassesOwn.never (pt_cmpR op_lt (pv 3) (pe_callB call_len_seq (by rfl) T.bLen PySem.boot_len (pa_cons (pv 2) pa_nil)) (nomark _))
      (pss_cons (ps_for PassesOwn.never rfl (pi_list (pe_fld (pv 0) rfl)) (pg_name (i := 4) scFl.nd rfl (Or.inl rfl))
        (pss_one (ps_for PassesOwn.never rfl (pi_tup (pe_tup (pa_cons (pe_tup (pa_cons (pe_fld (pv 4) rfl) (pa_cons (pe_fld (pv 4) rfl) pa_nil))) (pa_cons (pe_tup (pa_cons (pe_fld (pv 4) rfl) (pa_cons (pe_fld (pv 4) rfl) pa_nil))) pa_nil))))
          (pg_tup rfl (pgs_cons (pg_name (i := 5) scFl.nd rfl (Or.inl rfl)) (pgs_cons (pg_name (i := 6) scFl.nd rfl (Or.inl rfl)) pgs_nil)))
          (pss_one (ps_if (PW.pt (pw_and (pt_cmpR op_eq (pv 5) (pe_ix ix_list (pv 2) (pv 3) (fun _ _ => rfl)) (nomark _))
              (pw_and (pt_cmpR op_lt (pe_fld (pv 4) rfl) (pv 1) (nomark _)) (pw_and1 (pt_cmpR op_notIn_seq (pv 6) (pv 2) (by rfl))))))
            (pss_one (ps_expr (pe_bm PySem.F.plainAttrs_list PySem.F.slot_list_append PySem.F.type_list_append mt_append (pv 2) (pa_cons (pv 6) pa_nil)))) pss_nil)))))
      (pss_one (ps_aug (i := 3) scFl.nd rfl (Or.inl rfl) pe_int ip_add))))
    (pss_one (ps_ret (pv 2))))), ?_⟩)
  · obtain ⟨p, l, L, h, rfl, _⟩ := h
    rfl
  · obtain ⟨p, l, L, h, rfl, hL, wf, k⟩ := h
    obtain ⟨⟨dx, hp⟩, ps, hl, hlen, hds⟩ := id hL
    -- found = [SEA]; at = 0
    refine ⟨(by show 1 ≤ sizeLine; decide), fun q hq0 => ?_⟩
    refine ⟨fun m σ H' => ∃ (i : Nat) (fs : List Nat) (x4 x5 x6 : Option V), σ = [some (.ref p), some (iv h), some (.ref q), some (iv i), x4, x5, x6] ∧ m = 8 - i ∧ Same H H' ∧ H' q = some (.lst (fs.map iv)) ∧ Found L h fs ∧ ClosedTo L h fs i ∧ i ≤ fs.length,
      ⟨8, 0, [0], none, none, none, rfl, rfl, Same.new hq0, upd_same, found_start wf, fun j u hj => absurd hj (Nat.not_lt_zero _), Nat.zero_le _⟩, ?_⟩
    rintro m σ H' ⟨i, fs, x4, x5, x6, rfl, rfl, s1, hq, Fd, C, hle⟩
    have hlen7 : fs.length ≤ 7 := Nat.le_trans (found_len Fd) wf.c7
    refine ⟨_, rfl, _, rfl, q, _, rfl, .inl (SqL.of hq), _, _, rfl, rfl, _, rfl, ?_⟩
    by_cases c : i < fs.length
    · refine if_true_of (decide_eq_true (by rw [List.length_map]; omega)) ?_
      obtain ⟨u, hu⟩ : ∃ u, fs[i]? = some u := ⟨_, List.getElem?_eq_getElem c⟩
      refine ⟨fun σ' H2 => ∃ (y4 y5 y6 : Option V), σ' = [some (.ref p), some (iv h), some (.ref q), some (iv (i + 1)), y4, y5, y6] ∧ Same H H2 ∧ H2 q = some (.lst ((sweep L h u L.dikes.length fs).map iv)), ?_, ?_⟩
      · rintro σ' H2 ⟨y4, y5, y6, rfl, s2, hq2⟩
        obtain ⟨F2, C2⟩ := sweep_all wf Fd hu C
        obtain ⟨t, ht⟩ := (sweep_part wf Fd hu L.dikes.length).pre
        refine ⟨8 - (i + 1), by omega, i + 1, _, y4, y5, y6, rfl, rfl, s2, hq2, F2, C2, ?_⟩
        rw [ht, List.length_append]
        omega
      · -- for dike in self.dikes
        refine ⟨_, rfl, p, a.CL, dx, _, _, rfl, s1 _ _ hp, T.clL, T.nL2, lF_dikes _ _, l, rfl, ⟨_, SqL.of (s1 _ _ hl)⟩, for_list (K := K) (a := l) (xs := ps.map V.ref)
          (fun n σ H2 => ∃ (y4 y5 y6 : Option V), σ = [some (.ref p), some (iv h), some (.ref q), some (iv i), y4, y5, y6] ∧ Same H H2 ∧ H2 q = some (.lst ((sweep L h u n fs).map iv)))
          ⟨x4, x5, x6, rfl, s1, by rw [sweep_zero]; exact hq⟩ (fun n σ H2 _ ⟨_, _, _, _, s2, _⟩ => SqL.of (s2 _ _ hl)) ?_ ?_⟩
        · rintro n x σ H2 hx ⟨y4, y5, y6, rfl, s2, hq2⟩
          obtain ⟨pd, hpd, rfl⟩ : ∃ pd, ps[n]? = some pd ∧ x = V.ref pd := by
            rw [List.getElem?_map] at hx
            cases e : ps[n]? with
            | none =>
              rw [e] at hx
              cases hx
            | some z =>
              rw [e] at hx
              exact ⟨z, rfl, (Option.some.inj hx).symm⟩
          have hn : n < L.dikes.length := by
            rw [← hlen]
            exact (List.getElem?_eq_some_iff.mp hpd).1
          obtain ⟨d, hd⟩ : ∃ d, L.dikes[n]? = some d := ⟨_, List.getElem?_eq_getElem hn⟩
          obtain ⟨pd', hpd', dd, hdd⟩ := hds n d hd
          rw [hpd] at hpd'
          cases hpd'
          have hsw := sweep_more (h := h) (u := u) (fs := fs) hd
          have sw := sweep_part wf Fd hu n
          generalize hgs : sweep L h u n fs = gs at hq2 hsw sw
          have b1 := (lookBoth_swept wf (List.mem_of_getElem? hd) sw).1
          -- the tuples
          refine ⟨_, rfl, pd, a.CD, dd, _, _, rfl, s2 _ _ hdd, T.clD, T.nD1, dF_one d, _, rfl, pd, a.CD, dd, _, _, rfl, s2 _ _ hdd, T.clD, T.nD2, dF_other d, (by show 2 ≤ sizeLine; decide), fun t1 ht1 => ?_⟩
          have s3 : Same H (upd H2 t1 (.tup [iv d.a, iv d.b])) := s2.trans (Same.new ht1)
          refine ⟨_, rfl, pd, a.CD, dd, _, _, rfl, s3 _ _ hdd, T.clD, T.nD2, dF_other d, _, rfl, pd, a.CD, dd, _, _, rfl, s3 _ _ hdd, T.clD, T.nD1, dF_one d, (by show 2 ≤ sizeLine; decide), fun t2 ht2 => ?_⟩
          refine ⟨(by show 2 ≤ sizeLine; decide), fun t3 ht3 => ?_⟩
          have n1 : (upd H2 t1 (.tup [iv d.a, iv d.b])) q = some (.lst (gs.map iv)) := (Same.new ht1) _ _ hq2
          have n2 := (Same.new (o := .tup [iv d.b, iv d.a]) ht2) _ _ n1
          have n3 := (Same.new (o := .tup [.ref t1, .ref t2]) ht3) _ _ n2
          have e1 : (upd (upd (upd H2 t1 (.tup [iv d.a, iv d.b])) t2 (.tup [iv d.b, iv d.a])) t3 (.tup [.ref t1, .ref t2])) t1 = some (.tup [iv d.a, iv d.b]) := (Same.new ht3) _ _ ((Same.new ht2) _ _ upd_same)
          have e2 : (upd (upd (upd H2 t1 (.tup [iv d.a, iv d.b])) t2 (.tup [iv d.b, iv d.a])) t3 (.tup [.ref t1, .ref t2])) t2 = some (.tup [iv d.b, iv d.a]) := (Same.new ht3) _ _ upd_same
          have e3 : (upd (upd (upd H2 t1 (.tup [iv d.a, iv d.b])) t2 (.tup [iv d.b, iv d.a])) t3 (.tup [.ref t1, .ref t2])) t3 = some (.tup [.ref t1, .ref t2]) := upd_same
          have s5 : Same H (upd (upd (upd H2 t1 (.tup [iv d.a, iv d.b])) t2 (.tup [iv d.b, iv d.a])) t3 (.tup [.ref t1, .ref t2])) := (s3.trans (Same.new ht2)).trans (Same.new ht3)
          generalize upd (upd (upd H2 t1 (.tup [iv d.a, iv d.b])) t2 (.tup [iv d.b, iv d.a])) t3 (.tup [.ref t1, .ref t2]) = H5 at n3 e1 e2 e3 s5
          refine ⟨t3, rfl, ⟨_, SqT.of e3⟩, for_tup (K := K) (a := t3) (xs := [.ref t1, .ref t2])
            (fun j σ H6 => ∃ (y5 y6 : Option V), σ = [some (.ref p), some (iv h), some (.ref q), some (iv i), some (.ref pd), y5, y6] ∧ Same H H6 ∧ H6 t1 = some (.tup [iv d.a, iv d.b]) ∧ H6 t2 = some (.tup [iv d.b, iv d.a]) ∧ H6 t3 = some (.tup [.ref t1, .ref t2]) ∧
              H6 q = some (.lst ((match j with | 0 => gs | 1 => look (decide (d.high < h)) u d.a d.b gs | _ => lookBoth h u gs d).map iv)))
            ⟨y5, y6, rfl, s5, e1, e2, e3, n3⟩ (fun j σ H6 _ ⟨_, _, _, _, _, _, g3, _⟩ => SqT.of g3) ?_ ?_⟩
          · rintro j x σ H6 hj ⟨z5, z6, rfl, s6, g1, g2, g3, gq⟩
            obtain ⟨tt, side, far, ls, rfl, htt, hls, hnx, hat, hl7⟩ : ∃ (tt : Addr) (side far : Nat) (ls : List Nat), x = .ref tt ∧ H6 tt = some (.tup [iv side, iv far]) ∧ H6 q = some (.lst (ls.map iv)) ∧
                (match j + 1 with | 0 => gs | 1 => look (decide (d.high < h)) u d.a d.b gs | _ => lookBoth h u gs d) = look (decide (d.high < h)) u side far ls ∧ ls[i]? = some u ∧ ls.length ≤ 7 := by
              match j, hj with
              | 0, hj => exact ⟨t1, d.a, d.b, gs, (Option.some.inj hj).symm, g1, gq, rfl, sw.at_, Nat.le_trans (found_len sw.F) wf.c7⟩
              | 1, hj =>
                obtain ⟨_, lb, _, _⟩ := wf.dk d (List.mem_of_getElem? hd)
                have S1 := (look_swept (hl := decide (d.high < h)) (side := d.a) (far := d.b) sw (fun e1 e2 => ⟨d, List.mem_of_getElem? hd, of_decide_eq_true e2, .inl ⟨e1, rfl⟩⟩) lb).1
                exact ⟨t2, d.b, d.a, look (decide (d.high < h)) u d.a d.b gs, (Option.some.inj hj).symm, g2, gq, rfl, S1.at_, Nat.le_trans (found_len S1.F) wf.c7⟩
            refine ⟨tt, _, rfl, SqT.of htt, rfl, _, _, rfl, _, _, rfl, rfl, ?_⟩
            -- if side == found[at] and dike.height < height and far not in found
            refine ⟨_, rfl, _, rfl, _, rfl, q, _, _, _, rfl, rfl, SqL.of hls, atI_nat (map_get hat), rfl, _, rfl, ?_⟩
            have keep : ∀ (b : Addr) (o : HO), H6 b = some o → b ≠ q → upd H6 q (.lst ((ls ++ [far]).map iv)) b = some o := fun b o e hb => by
              rw [upd_ne hb]
              exact e
            have htq : ∀ {t : Addr} {xs : List V}, H6 t = some (.tup xs) → t ≠ q := fun e => ne_of e gq (fun z => by cases z)
            by_cases c1 : side = u
            · refine if_true_of (by rw [dec_iv]; exact decide_eq_true c1) ?_
              refine ⟨_, rfl, pd, a.CD, dd, _, _, rfl, s6 _ _ hdd, T.clD, T.nD3, dF_height d, _, rfl, _, _, rfl, rfl, _, rfl, ?_⟩
              by_cases c2 : d.high < h
              · refine if_true_of (decide_eq_true (by omega)) ?_
                refine ⟨_, rfl, _, rfl, q, _, rfl, .inl (SqL.of hls), rfl, flat_iv ls, _, rfl, ?_⟩
                by_cases c3 : far ∈ ls
                · refine if_false_of (by rw [if_pos rfl, inV_iv, List.contains_iff_mem.mpr c3]; rfl) ?_
                  refine ⟨_, _, rfl, s6, g1, g2, g3, ?_⟩
                  rw [hnx, hls]
                  unfold look
                  rw [if_neg (fun z => z.2.2 c3)]
                · have c3' : ls.contains far = false := by
                    cases e : ls.contains far with
                    | false => rfl
                    | true => exact absurd (List.contains_iff_mem.mp e) c3
                  refine if_true_of (by rw [if_pos rfl, inV_iv, c3']; rfl) ?_
                  refine ⟨_, rfl, .inl ⟨rfl, _, SqL.of hls⟩, _, rfl, q, _, _, rfl, rfl, hls, ?_, ?_⟩
                  · rw [List.length_map]
                    exact small (by omega)
                  · have em : ls.map iv ++ [iv far] = (ls ++ [far]).map iv := by simp
                    rw [em]
                    refine ⟨_, _, rfl, fun b o e => keep b o (s6 b o e) (ne_of_none e hq0), keep _ _ g1 (htq g1), keep _ _ g2 (htq g2), keep _ _ g3 (htq g3), ?_⟩
                    rw [hnx, upd_same]
                    unfold look
                    rw [if_pos ⟨c1, decide_eq_true c2, c3⟩]
              · refine if_false_of (decide_eq_false (by omega)) ?_
                refine if_false_of rfl ?_
                refine ⟨_, _, rfl, s6, g1, g2, g3, ?_⟩
                rw [hnx, hls]
                unfold look
                rw [if_neg (fun z => c2 (of_decide_eq_true z.2.1))]
            · refine if_false_of (by rw [dec_iv]; exact decide_eq_false c1) ?_
              refine if_false_of rfl ?_
              refine ⟨_, _, rfl, s6, g1, g2, g3, ?_⟩
              rw [hnx, hls]
              unfold look
              rw [if_neg (fun z => c1 z.1)]
          · rintro σ H6 ⟨z5, z6, rfl, s6, g1, g2, g3, gq⟩
            refine ⟨_, _, _, rfl, s6, ?_⟩
            rw [hsw]
            exact gq
        · rintro σ H2 ⟨y4, y5, y6, rfl, s2, hq2⟩
          rw [List.length_map, hlen] at hq2
          -- at += 1
          exact ⟨_, rfl, _, _, rfl, rfl, y4, y5, y6, rfl, s2, hq2⟩
    · refine if_false_of (decide_eq_false (by rw [List.length_map]; omega)) ?_
      have ei : i = fs.length := by omega
      subst ei
      exact ⟨_, rfl, k H' q fs s1 hq0 hq Fd C⟩
end
end Dk
namespace Dk
open PySem PySem.Spec PyProof.Rows L2
/-- a number, or None -/
def optV : Option Nat → V
  | none => .non
  | some n => iv n
theorem bit_is (n c : Nat) : decide (V.int ((n : Int) / 2 ^ c % 2 ^ 1) = V.int 1) = n.testBit c := by
  have e := shr_bit n c
  rw [Int.toNat_natCast] at e
  rw [← e, decide_eq_decide]
  constructor
  · intro h
    injection h with h
  · intro h
    show V.int ((n : Int) / 2 ^ c % 2) = V.int 1
    rw [h]
theorem ne_bl (x y : Bool) : (!decide (V.bl x = V.bl y)) = (x != y) := by
  cases x <;> cases y <;> decide
theorem ref_get {ps : List Addr} {n : Nat} {x : V} (hx : (ps.map V.ref)[n]? = some x) : ∃ pd, ps[n]? = some pd ∧ x = V.ref pd := by
  rw [List.getElem?_map] at hx
  cases e : ps[n]? with
  | none =>
    rw [e] at hx
    cases hx
  | some z =>
    rw [e] at hx
    exact ⟨z, rfl, (Option.some.inj hx).symm⟩
/-- the i-th dike of a land, and where it stands -/
theorem dike_at {a : Ad} {H : Hp} {ps : List Addr} {ds : List Si98.Dike} {n : Nat} {pd : Addr} (h : DikesAt a H ps ds) (hp : ps[n]? = some pd) : ∃ d dd, ds[n]? = some d ∧ H pd = some (.ins a.CD dd (dF d)) := by
  have hn : n < ds.length := by
    rw [← h.1]
    exact (List.getElem?_eq_some_iff.mp hp).1
  have hd : ds[n]? = some ds[n] := List.getElem?_eq_getElem hn
  obtain ⟨pd', hpd', dd, hdd⟩ := h.2 n _ hd
  rw [hp] at hpd'
  cases hpd'
  exact ⟨_, dd, hd, hdd⟩
section
variable {P : Program} {w : World} {K : PySem.W.Frag} {mg : Str → Option Value} {base : Heap} {a : Ad}
/-! ### Land.dry_up_to -/
def spDryUp (a : Ad) : Sp := fun vs H Q _ => ∃ (p l : Addr) (L : Si98.Land) (v : Nat), vs = [.ref p, iv v] ∧ LandAt a H p l L ∧ WF L ∧ v ≠ 0 ∧
  ∀ H' : Hp, Same H H' → Q (optV (L.dry v)) H'
theorem scDu : FnScope ["self", "compartment", "height"] ["self", "compartment"] (defScope sDryUp) := ⟨rfl, rfl, rfl, by decide +kernel, rfl, by decide +kernel, by decide +kernel⟩
theorem ok_dryup {f : Addr} (F : FunAt K "dry_up_to" "Land.dry_up_to" sDryUp f) (M : Meth K a.CL "dry_up_to" f) (T : Txt K mg a) (cF : CalM P w K mg base CX0 1 a.CL "flooded" ["self", "height"] (spFlooded a)) : CalM P w K mg base CX0 2 a.CL "dry_up_to" ["self", "compartment"] (spDryUp a) := by
  obtain ⟨fd, F⟩ := F
  refine ⟨f, ⟨fd, ?_, F.binds fun _ _ _ _ _ _ us hl => match us, hl with | [_, _], _ => rfl⟩, M⟩
  refine F.ok scDu (fun vs H Q E h => ?_) (fun cdv A outer s H vs Q E hr h => ⟨_,
    pss_cons (ps_for PassesOwn.never rfl (pi_range1 rfl T.bRange (pa_cons (pe_op op_add (pe_num rfl T.cHEIGHT) pe_int) pa_nil)) (pg_name (i := 2) scDu.nd rfl (Or.inl rfl))
      (pss_one (ps_if (pt_cmpR op_in_seq (pv 1) (pe_md (pv 0) T.clL cF hr pass0 (pa_cons (pe_op op_add (pv 2) pe_int) pa_nil)) (by rfl)) (pss_one (ps_ret (pv 2))) pss_nil)))
    (pss_one (ps_ret pe_non)), ?_⟩)
  · obtain ⟨p, l, L, h, rfl, _⟩ := h
    rfl
  · obtain ⟨p, l, L, v, rfl, hL, wf, hv, k⟩ := h
    obtain ⟨⟨dx, hp⟩, _⟩ := id hL
    refine ⟨_, _, rfl, rfl, 101, rfl, by decide, by decide, for_range (lo := 0) (n := 101) (fun i σ H' => ∃ y2 : Option V, σ = [some (.ref p), some (iv v), y2] ∧ Same H H' ∧ ∀ j, j < i → (L.flooded (j + 1)).contains v = false)
      ⟨none, rfl, Same.refl H, fun j hj => absurd hj (Nat.not_lt_zero _)⟩ ?_ ?_⟩
    · rintro i σ H' hi ⟨y2, rfl, s1, hno⟩
      rw [Int.zero_add]
      refine ⟨_, rfl, _, rfl, p, dx, _, rfl, s1 _ _ hp, lF_flooded _ _, _, rfl, _, _, rfl, rfl, ?_⟩
      refine ⟨p, l, L, i + 1, rfl, hL.same s1, wf, fun H2 q fs s2 hq0 hq Fd C => ?_⟩
      have em : (L.flooded (i + 1)).contains v = fs.contains v := by
        rw [Bool.eq_iff_iff, List.contains_iff_mem, List.contains_iff_mem]
        exact flooded_mem Fd C v
      refine ⟨q, _, rfl, .inl (SqL.of hq), rfl, flat_iv fs, _, rfl, ?_⟩
      cases c : fs.contains v with
      | true =>
        refine if_true_of (by rw [if_neg Bool.false_ne_true, inV_iv, c]) ?_
        refine ⟨_, rfl, ?_⟩
        have e := k H2 (s1.trans s2)
        rw [dry_some hv hi hno (em.trans c)] at e
        exact e
      | false =>
        refine if_false_of (by rw [if_neg Bool.false_ne_true, inV_iv, c]) ?_
        refine ⟨_, rfl, s1.trans s2, fun j hj => ?_⟩
        by_cases cj : j < i
        · exact hno j cj
        · have ej : j = i := by omega
          rw [ej, em]
          exact c
    · rintro σ H' ⟨y2, rfl, s1, hno⟩
      have e := k H' s1
      rw [dry_none hv hno] at e
      exact e
/-! ### has -/
def spHas : Sp := fun vs H Q _ => ∃ n c : Nat, vs = [iv n, iv c] ∧ Q (.bl (n.testBit c)) H
theorem scHas : FnScope ["number", "compartment"] ["number", "compartment"] (defScope sHas) := ⟨rfl, rfl, rfl, by decide +kernel, rfl, by decide +kernel, by decide +kernel⟩
theorem ok_has {f : Addr} (F : FunAt K "has" "has" sHas f) (M : Nam K mg "has" f) : Cal P w K mg base CX0 1 "has" ["number", "compartment"] spHas := by
  obtain ⟨fd, F⟩ := F
  refine ⟨f, ⟨fd, ?_, F.binds fun _ _ _ _ _ _ us hl => match us, hl with | [_, _], _ => rfl⟩, M⟩
  refine F.ok scHas (fun vs H Q E h => ?_) (fun cdv A outer s H vs Q E hr h => ⟨_,
    pss_one (ps_ret (pe_cmpR op_eq (pe_op op_andM (pe_op op_shrN (pv 0) (pv 1)) pe_int) pe_int (nomark _))), ?_⟩)
  · obtain ⟨n, c, rfl, _⟩ := h
    rfl
  · obtain ⟨n, c, rfl, k⟩ := h
    refine ⟨_, rfl, _, rfl, (n : Int), c, rfl, rfl, _, 1, rfl, rfl, rfl, ?_⟩
    rw [bit_is]
    exact k
/-! ### lower_dikes -/
def spLower (a : Ad) : Sp := fun vs H Q _ => ∃ (p l : Addr) (L : Si98.Land) (s h : Nat), vs = [.ref p, iv s, iv h] ∧ LandAt a H p l L ∧ WF L ∧
  ∀ (H' : Hp) (q : Addr), Same H H' → H q = none → H' q = some (.lst ((L.between h s).map iv)) → Q (.ref q) H'
theorem scLo : FnScope ["land", "number", "height", "found", "at", "dike"] ["land", "number", "height"] (defScope sLower) := ⟨rfl, rfl, rfl, by decide +kernel, rfl, by decide +kernel, by decide +kernel⟩
theorem ok_lower {f : Addr} (F : FunAt K "lower_dikes" "lower_dikes" sLower f) (M : Nam K mg "lower_dikes" f) (T : Txt K mg a) (cH : Cal P w K mg base CX0 1 "has" ["number", "compartment"] spHas) : Cal P w K mg base CX0 2 "lower_dikes" ["land", "number", "height"] (spLower a) := by
  obtain ⟨fd, F⟩ := F
  refine ⟨f, ⟨fd, ?_, F.binds fun _ _ _ _ _ _ us hl => match us, hl with | [_, _, _], _ => rfl⟩, M⟩
  refine F.ok scLo (fun vs H Q E h => ?_) (fun cdv A outer s H vs Q E hr h => ⟨_,
    pss_cons (ps_set (i := 3) scLo.nd rfl (Or.inl rfl) (pe_lst pa_nil))
    (pss_cons (ps_for PassesOwn.never rfl (pi_enum (by rfl) T.bEnum (pa_cons (pe_fld (pv 0) rfl) pa_nil)) (pg_tup rfl (pgs_cons (pg_name (i := 4) scLo.nd rfl (Or.inl rfl)) (pgs_cons (pg_name (i := 5) scLo.nd rfl (Or.inl rfl)) pgs_nil)))
      (pss_one (ps_if (PW.pt (pw_and (pt_cmpR op_ne (pe_cd cH hr rfl pass0 (pa_cons (pv 1) (pa_cons (pe_fld (pv 5) rfl) pa_nil))) (pe_cd cH hr rfl pass0 (pa_cons (pv 1) (pa_cons (pe_fld (pv 5) rfl) pa_nil))) (nomark _))
          (pw_and1 (pt_cmpR op_lt (pe_fld (pv 5) rfl) (pv 2) (nomark _)))))
        (pss_one (ps_expr (pe_bm PySem.F.plainAttrs_list PySem.F.slot_list_append PySem.F.type_list_append mt_append (pv 3) (pa_cons (pv 4) pa_nil)))) pss_nil)))
    (pss_one (ps_ret (pv 3)))), ?_⟩)
  · obtain ⟨p, l, L, s, h, rfl, _⟩ := h
    rfl
  · obtain ⟨p, l, L, s, h, rfl, hL, wf, k⟩ := h
    obtain ⟨⟨dx, hp⟩, ps, hl, hds⟩ := id hL
    refine ⟨(by show 0 ≤ sizeLine; decide), fun q hq0 => ?_⟩
    have s0 : Same H (upd H q (.lst [])) := Same.new hq0
    refine ⟨_, rfl, p, a.CL, dx, _, _, rfl, s0 _ _ hp, T.clL, T.nL2, lF_dikes _ _, l, _, rfl, SqL.of (s0 _ _ hl), for_it (walk_enum (K := K) (a := l) (xs := ps.map V.ref))
      (fun n σ H' => ∃ y4 y5 : Option V, σ = [some (.ref p), some (iv s), some (iv h), some (.ref q), y4, y5] ∧ Same H H' ∧ H' q = some (.lst ((lowTo L h s n).map iv)))
      ⟨none, none, rfl, s0, upd_same⟩ (fun n σ H' _ ⟨_, _, _, s1, _⟩ => SqL.of (s1 _ _ hl)) ?_ ?_⟩
    · rintro n x σ H1 H2 hn ⟨y4, y5, rfl, s1, hq1⟩ ⟨t, x1, x2, rfl, ht, rfl, e1, e2⟩
      cases e1
      obtain ⟨pd, hpd, rfl⟩ := ref_get e2
      obtain ⟨d, dd, hd, hdd⟩ := dike_at hds hpd
      have s2 : Same H (upd H1 t (.tup [.int (n : Nat), .ref pd])) := s1.trans (Same.new ht)
      have hq2 : (upd H1 t (.tup [.int (n : Nat), .ref pd])) q = some (.lst ((lowTo L h s n).map iv)) := (Same.new ht) _ _ hq1
      have hmore := lowTo_more (h := h) (s := s) hd
      refine ⟨t, _, rfl, SqT.of upd_same, rfl, _, _, rfl, _, _, rfl, rfl, ?_⟩
      generalize upd H1 t (.tup [.int (n : Nat), .ref pd]) = H3 at s2 hq2
      refine ⟨_, rfl, _, rfl, pd, a.CD, dd, _, _, rfl, s2 _ _ hdd, T.clD, T.nD1, dF_one d, s, d.a, rfl, ?_⟩
      refine ⟨_, rfl, _, rfl, pd, a.CD, dd, _, _, rfl, s2 _ _ hdd, T.clD, T.nD2, dF_other d, s, d.b, rfl, ?_⟩
      refine ⟨rfl, _, rfl, ?_⟩
      rw [ne_bl]
      have hlen : (lowTo L h s n).length < 13 := by
        have := lowTo_len L h s n
        have := wf.n12
        have := (List.getElem?_eq_some_iff.mp hd).1
        omega
      cases c1 : (s.testBit d.a != s.testBit d.b) with
      | true =>
        refine if_true_of rfl ?_
        refine ⟨_, rfl, pd, a.CD, dd, _, _, rfl, s2 _ _ hdd, T.clD, T.nD3, dF_height d, _, rfl, _, _, rfl, rfl, _, rfl, ?_⟩
        by_cases c2 : d.high < h
        · refine if_true_of (decide_eq_true (by omega)) ?_
          refine ⟨_, rfl, .inl ⟨rfl, _, SqL.of hq2⟩, _, rfl, q, _, _, rfl, rfl, hq2, ?_, ?_⟩
          · rw [List.length_map]
            exact small (by omega)
          · refine ⟨_, _, rfl, Same.over s2 hq0, ?_⟩
            have ec : cross h s d = true := by
              show (s.testBit d.a != s.testBit d.b && decide (d.high < h)) = true
              rw [c1, decide_eq_true c2]
              rfl
            rw [upd_same, hmore, if_pos ec]
            simp
        · refine if_false_of (decide_eq_false (by omega)) ?_
          refine ⟨_, _, rfl, s2, ?_⟩
          have ec : ¬ cross h s d = true := by
            show ¬ (s.testBit d.a != s.testBit d.b && decide (d.high < h)) = true
            rw [decide_eq_false c2, Bool.and_false]
            exact Bool.false_ne_true
          rw [hmore, if_neg ec]
          exact hq2
      | false =>
        refine if_false_of rfl ?_
        refine if_false_of rfl ?_
        refine ⟨_, _, rfl, s2, ?_⟩
        have ec : ¬ cross h s d = true := by
          show ¬ (s.testBit d.a != s.testBit d.b && decide (d.high < h)) = true
          rw [c1, Bool.false_and]
          exact Bool.false_ne_true
        rw [hmore, if_neg ec]
        exact hq2
    · rintro σ H1 ⟨y4, y5, rfl, s1, hq1⟩
      rw [List.length_map, hds.1, lowTo_all] at hq1
      exact ⟨_, rfl, k H1 q s1 hq0 hq1⟩
end
end Dk
namespace Dk
open PySem PySem.Spec PyProof.Rows L2
section
variable {P : Program} {w : World} {K : PySem.W.Frag} {mg : Str → Option Value} {base : Heap} {a : Ad}
/-! ### price_of -/
def spPrice (a : Ad) : Sp := fun vs H Q _ => ∃ (p l : Addr) (L : Si98.Land) (s h : Nat), vs = [.ref p, iv s, iv h] ∧ LandAt a H p l L ∧ WF L ∧
  ∀ H' : Hp, Same H H' → Q (iv (L.price h s)) H'
theorem scPr : FnScope ["land", "number", "height", "at"] ["land", "number", "height"] (defScope sPrice) := ⟨rfl, rfl, rfl, by decide +kernel, rfl, by decide +kernel, by decide +kernel⟩
theorem ok_price {f : Addr} (F : FunAt K "price_of" "price_of" sPrice f) (M : Nam K mg "price_of" f) (T : Txt K mg a) (cL : Cal P w K mg base CX0 2 "lower_dikes" ["land", "number", "height"] (spLower a)) : Cal P w K mg base CX0 3 "price_of" ["land", "number", "height"] (spPrice a) := by
  obtain ⟨fd, F⟩ := F
  refine ⟨f, ⟨fd, ?_, F.binds fun _ _ _ _ _ _ us hl => match us, hl with | [_, _, _], _ => rfl⟩, M⟩
  refine F.ok scPr (fun vs H Q E h => ?_) (fun cdv A outer s H vs Q E hr h => ⟨_,
    pss_one (ps_ret (pe_callB (cr_sum rfl) (by rfl) T.bSum (by decide +kernel) (pa_cons
      (pe_lc (own := [("at", 3)]) (g := gName 3) (tt := tYes)
        (te := tOp (rI CMul fun i j => .int (i * j)) (tFld K (tOp (rIxL K) (tFld K (tVar 0) "dikes") (tVar 3)) "cost") (tOp (rI0 fun i j => .int (i - j)) (tVar 2) (tFld K (tOp (rIxL K) (tFld K (tVar 0) "dikes") (tVar 3)) "height"))) rfl scPr.nd (pi_list (pe_cd cL hr rfl pass0 (pa_cons (pv 0) (pa_cons (pv 1) (pa_cons (pv 2) pa_nil)))))
        (blkOk_by (own := [("at", 3)]) (N := ["land", "number", "height", "at"]) (sc := defScope sPrice) (by decide +kernel)) (fun _ _ _ _ _ => pg_name (i := 3) scPr.nd rfl (Or.inl rfl)) (fun _ _ _ _ _ => pts_nil)
        (fun _ _ _ _ _ => by exact (pe_op op_mul (pe_fld (pe_ix ix_list (pe_fld (pv 0) rfl) (pv 3) (fun _ _ => rfl)) rfl) (pe_op op_sub (pv 2) (pe_fld (pe_ix ix_list (pe_fld (pv 0) rfl) (pv 3) (fun _ _ => rfl)) rfl))))) pa_nil))), ?_⟩)
  · obtain ⟨p, l, L, s, h, rfl, _⟩ := h
    rfl
  · obtain ⟨p, l, L, s, h, rfl, hL, wf, k⟩ := h
    obtain ⟨⟨dx, hp⟩, ps, hl, hds⟩ := id hL
    refine ⟨_, rfl, _, rfl, _, rfl, p, l, L, s, h, rfl, hL, wf, fun H1 q s1 hq0 hq => ?_⟩
    refine ⟨q, rfl, ⟨_, SqL.of hq⟩, fun D hD => ?_⟩
    have hqD : q ≠ D := ne_of_none hq hD
    have hD0 : H D = none := s1.free hD
    refine lc_list (K := K) (a := q) (xs := (L.between h s).map iv) (fun i H' => Same H H' ∧ H' q = some (.lst ((L.between h s).map iv)) ∧ H' D = some (.lst (((L.between h s).take i).map fun j => V.int (costAt L h j))))
      ⟨Same.over s1 hD0, (upd_ne hqD).trans hq, upd_same⟩ (fun i H' _ ⟨_, g, _⟩ => SqL.of g) ?_ ?_
    · rintro i x H2 hx ⟨s2, g1, g2⟩
      obtain ⟨j, hj, rfl⟩ : ∃ j, (L.between h s)[i]? = some j ∧ x = iv j := by
        rw [List.getElem?_map] at hx
        cases e : (L.between h s)[i]? with
        | none =>
          rw [e] at hx
          cases hx
        | some z =>
          rw [e] at hx
          exact ⟨z, rfl, (Option.some.inj hx).symm⟩
      obtain ⟨d, hd, hdm, hcr⟩ := mem_between (List.mem_of_getElem? hj)
      obtain ⟨pd, hpd, dd, hdd⟩ := hds.2 j d hd
      have hget : (ps.map V.ref)[j]? = some (.ref pd) := by
        rw [List.getElem?_map, hpd]
        rfl
      have hb := wf.dk d hdm
      refine ⟨rfl, ?_⟩
      unfold tYes
      refine iteT ?_
      refine ⟨_, rfl, p, a.CL, dx, _, _, rfl, s2 _ _ hp, T.clL, T.nL2, lF_dikes _ _, _, rfl, l, _, _, _, rfl, rfl, SqL.of (s2 _ _ hl), atI_nat hget, pd, a.CD, dd, _, _, rfl, s2 _ _ hdd, T.clD, T.nD4, dF_cost d, ?_⟩
      refine ⟨_, rfl, _, rfl, p, a.CL, dx, _, _, rfl, s2 _ _ hp, T.clL, T.nL2, lF_dikes _ _, _, rfl, l, _, _, _, rfl, rfl, SqL.of (s2 _ _ hl), atI_nat hget, pd, a.CD, dd, _, _, rfl, s2 _ _ hdd, T.clD, T.nD3, dF_height d, _, _, rfl, rfl, ?_⟩
      refine ⟨_, _, rfl, rfl, .inl ⟨by omega, by omega⟩, _, g2, ?_, Same.over s2 hD0, (upd_ne hqD).trans g1, ?_⟩
      · rw [List.length_map, List.length_take]
        have := between_len (h := h) (s := s) wf
        exact small (by omega)
      · rw [upd_same, List.take_add_one, hj]
        have ec : costAt L h j = (d.cost : Int) * ((h : Int) - (d.high : Int)) := by
          unfold costAt
          rw [getD_of hd]
        simp [ec]
    · rintro H2 ⟨s2, g1, g2⟩
      rw [List.length_map, List.take_length] at g2
      refine ⟨D, (L.between h s).map (costAt L h), rfl, SqL.of ?_, ?_⟩
      · rw [g2, List.map_map]
        rfl
      · rw [price_eq]
        exact k H2 s2
/-! ### least_price -/
theorem rg_two {c : Nat} (h1 : 1 ≤ c) (h7 : c ≤ 7) : RgC 0 (1 * 2 ^ c) 2 (2 ^ (c - 1)) := by
  have : c = 1 ∨ c = 2 ∨ c = 3 ∨ c = 4 ∨ c = 5 ∨ c = 6 ∨ c = 7 := by omega
  rcases this with rfl | rfl | rfl | rfl | rfl | rfl | rfl <;> exact ⟨by decide, by decide, by decide, by decide⟩
theorem shl_ok {c : Nat} (h7 : c ≤ 7) : CPow 1 (c : Int) := ⟨by omega, by omega, by decide⟩
theorem band_is (m n : Nat) : decide (V.int (Builtin.bitAnd (m : Int) (n : Int)) = V.int (n : Int)) = decide (m &&& n = n) := by
  have e : Builtin.bitAnd (m : Int) (n : Int) = ((m &&& n : Nat) : Int) := by
    simp [Builtin.bitAnd]
  rw [e]
  exact dec_iv _ _
def spLeast (a : Ad) : Sp := fun vs H Q _ => ∃ (p l : Addr) (L : Si98.Land) (s h : Nat), vs = [.ref p, iv s, iv h] ∧ LandAt a H p l L ∧ WF L ∧ s < 2 ^ L.count ∧ Si98.has s 0 = false ∧
  ∀ (H' : Hp) (q : Addr) (b : Si98.Best), Same H H' → L.raise h s = some b → KeptAt a H' q b → Q (.ref q) H'
theorem scLe : FnScope ["land", "kept", "height", "found", "number", "price"] ["land", "kept", "height"] (defScope sLeast) := ⟨rfl, rfl, rfl, by decide +kernel, rfl, by decide +kernel, by decide +kernel⟩
theorem ok_least {f : Addr} (F : FunAt K "least_price" "least_price" sLeast f) (M : Nam K mg "least_price" f) (T : Txt K mg a) (cP : Cal P w K mg base CX0 3 "price_of" ["land", "number", "height"] (spPrice a))
    (cK : CalI P w K mg base CX0 1 a.CK ["self", "price", "many", "number"] (spKeptI a)) : Cal P w K mg base CX0 4 "least_price" ["land", "kept", "height"] (spLeast a) := by
  obtain ⟨fd, F⟩ := F
  refine ⟨f, ⟨fd, ?_, F.binds fun _ _ _ _ _ _ us hl => match us, hl with | [_, _, _], _ => rfl⟩, M⟩
  refine F.ok scLe (fun vs H Q E h => ?_) (fun cdv A outer s H vs Q E hr h => ⟨_,
    pss_cons (ps_set (i := 3) scLe.nd rfl (Or.inl rfl) (pe_mkd cK (hr.mono (by decide)) rfl T.gK pass0 (pa_cons (pe_cd cP hr rfl pass0 (pa_cons (pv 0) (pa_cons (pv 1) (pa_cons (pv 2) pa_nil)))) (pa_cons pe_int (pa_cons (pv 1) pa_nil)))))
    (pss_cons (ps_for PassesOwn.never rfl (pi_range3 rfl T.bRange (pa_cons pe_int (pa_cons (pe_op op_shl pe_int (pe_fld (pv 0) rfl)) (pa_cons pe_int pa_nil)))) (pg_name (i := 4) scLe.nd rfl (Or.inl rfl))
      (pss_one (ps_if (pt_cmpR op_eq (pe_op op_and (pv 4) (pv 1)) (pv 1) (nomark _))
        (pss_cons (ps_set (i := 5) scLe.nd rfl (Or.inl rfl) (pe_cd cP hr rfl pass0 (pa_cons (pv 0) (pa_cons (pv 4) (pa_cons (pv 2) pa_nil)))))
        (pss_cons (ps_if (pt_cmpR op_lt (pv 5) (pe_fld (pv 3) rfl) (nomark _))
          (pss_one (ps_set (i := 3) scLe.nd rfl (Or.inl rfl) (pe_mkd cK (hr.mono (by decide)) rfl T.gK pass0 (pa_cons (pv 5) (pa_cons pe_int (pa_cons (pv 4) pa_nil)))))) pss_nil)
        (pss_one (ps_if (pt_cmpR op_eq (pv 5) (pe_fld (pv 3) rfl) (nomark _))
          (pss_cons (ps_fldaug (pv 3) pe_int in_add)
          (pss_one (ps_fld (pv 3) (pe_callB (call_min2 rfl) (by rfl) T.bMin (by decide +kernel) (pa_cons (pe_fld (pv 3) rfl) (pa_cons (pv 4) pa_nil))) rfl))) pss_nil)))) pss_nil)))
    (pss_one (ps_ret (pv 3)))), ?_⟩)
  · obtain ⟨p, l, L, s, h, rfl, _⟩ := h
    rfl
  · obtain ⟨p, l, L, s, h, rfl, hL, wf, hs, h0, k⟩ := h
    obtain ⟨⟨dx, hp⟩, _⟩ := id hL
    -- found = Kept(price_of(land, kept, height), 0, kept)
    refine ⟨_, rfl, _, rfl, _, rfl, p, l, L, s, h, rfl, hL, wf, fun H1 s1 => ?_⟩
    refine ⟨_, rfl, fun x dy nx nd ne => ?_⟩
    refine ⟨x, dy, ⟨L.price h s, 0, s⟩, rfl, upd_same, fun H2 kx kp => ⟨rfl, ?_⟩⟩
    have s2 : Same H H2 := s1.trans (Same.made nx nd kp)
    -- for number in range(0, 1 << land.many, 2)
    refine ⟨_, rfl, p, a.CL, dx, _, _, rfl, s2 _ _ hp, T.clL, T.nL1, lF_many _ _, _, _, rfl, rfl, shl_ok wf.c7, 0, 1 * 2 ^ L.count, 2, 2 ^ (L.count - 1), rfl, rg_two wf.c1 wf.c7, for_rangeC (lo := 0) (c := 2) (n := 2 ^ (L.count - 1))
      (fun n σ H' => ∃ (q : Addr) (b : Si98.Best) (y4 y5 : Option V), σ = [some (.ref p), some (iv s), some (iv h), some (.ref q), y4, y5] ∧ Same H H' ∧ H q = none ∧ KeptAt a H' q b ∧ Sees L h s n b)
      ⟨x, _, none, none, rfl, s2, s1.free nx, kx, sees_zero L h s⟩ ?_ ?_⟩
    · rintro n σ H3 hn ⟨q, b, y4, y5, rfl, s3, hq0, ⟨dq, hq⟩, S⟩
      have e2n : (0 : Int) + ((n : Nat) : Int) * 2 = ((2 * n : Nat) : Int) := by omega
      rw [e2n]
      refine ⟨_, rfl, _, rfl, _, _, rfl, rfl, _, rfl, rfl, _, rfl, ?_⟩
      rw [band_is]
      by_cases c : (2 * n) &&& s = s
      · refine if_true_of (decide_eq_true c) ?_
        have St := sees_turn hs S c
        -- price = price_of(land, number, height)
        refine ⟨_, rfl, _, rfl, _, rfl, p, l, L, 2 * n, h, rfl, hL.same s3, wf, fun H4 s4 => ?_⟩
        have s5 : Same H H4 := s3.trans s4
        have hq4 := s4 _ _ hq
        refine ⟨_, rfl, _, rfl, q, a.CK, dq, _, _, rfl, hq4, T.clK, T.nK1, kF_price b, _, _, rfl, rfl, _, rfl, ?_⟩
        by_cases c1 : L.price h (2 * n) < b.cost
        · refine if_true_of (decide_eq_true (by omega)) ?_
          refine ⟨_, rfl, _, rfl, fun x dy nx nd ne => ?_⟩
          refine ⟨x, dy, ⟨L.price h (2 * n), 0, 2 * n⟩, rfl, upd_same, fun H5 kx kp => ⟨rfl, ?_⟩⟩
          have s6 : Same H H5 := s5.trans (Same.made nx nd kp)
          have hx0 : H x = none := s5.free nx
          obtain ⟨dz, hz⟩ := kx
          refine ⟨_, rfl, _, rfl, x, a.CK, dz, _, _, rfl, hz, T.clK, T.nK1, kF_price _, rfl, _, rfl, ?_⟩
          refine if_true_of (decide_eq_true rfl) ?_
          refine ⟨_, rfl, x, a.CK, dz, _, _, rfl, hz, T.clK, T.nK2, kF_many _, _, _, rfl, rfl, _, _, hz, (by show 3 < 1000; decide), ?_⟩
          have e1 : putF "many" (V.int (((0 : Nat) : Int) + 1)) (kF ⟨L.price h (2 * n), 0, 2 * n⟩) = kF ⟨L.price h (2 * n), 1, 2 * n⟩ := kF_pmany _ 1
          rw [e1]
          refine ⟨_, rfl, x, a.CK, dz, _, _, rfl, upd_same, T.clK, T.nK3, kF_number _, _, rfl, _, _, rfl, _, rfl, x, a.CK, dz, _, rfl, upd_same, T.clK, T.nK3, (by show 3 < 1000; decide), ?_⟩
          have em : (if ((2 * n : Nat) : Int) < ((2 * n : Nat) : Int) then ((2 * n : Nat) : Int) else ((2 * n : Nat) : Int)) = ((2 * n : Nat) : Int) := by split <;> rfl
          rw [em]
          have e2 : putF "number" (iv (2 * n)) (kF ⟨L.price h (2 * n), 1, 2 * n⟩) = kF ⟨L.price h (2 * n), 1, 2 * n⟩ := kF_pnumber _ _
          rw [e2]
          have et : turn L h (2 * n) b = ⟨L.price h (2 * n), 1, 2 * n⟩ := if_pos c1
          rw [et] at St
          exact ⟨x, _, _, _, rfl, Same.over (Same.over s6 hx0) hx0, hx0, ⟨dz, upd_same⟩, St⟩
        · refine if_false_of (decide_eq_false (by omega)) ?_
          refine ⟨_, rfl, _, rfl, q, a.CK, dq, _, _, rfl, hq4, T.clK, T.nK1, kF_price b, rfl, _, rfl, ?_⟩
          by_cases c2 : L.price h (2 * n) = b.cost
          · refine if_true_of (by rw [dec_iv]; exact decide_eq_true c2) ?_
            refine ⟨_, rfl, q, a.CK, dq, _, _, rfl, hq4, T.clK, T.nK2, kF_many _, _, _, rfl, rfl, _, _, hq4, (by show 3 < 1000; decide), ?_⟩
            have e1 : putF "many" (V.int (((b.many : Nat) : Int) + 1)) (kF b) = kF ⟨b.cost, b.many + 1, b.set_⟩ := kF_pmany _ _
            rw [e1]
            refine ⟨_, rfl, q, a.CK, dq, _, _, rfl, upd_same, T.clK, T.nK3, kF_number _, _, rfl, _, _, rfl, _, rfl, q, a.CK, dq, _, rfl, upd_same, T.clK, T.nK3, (by show 3 < 1000; decide), ?_⟩
            have em : (if ((2 * n : Nat) : Int) < ((b.set_ : Nat) : Int) then ((2 * n : Nat) : Int) else ((b.set_ : Nat) : Int)) = ((min b.set_ (2 * n) : Nat) : Int) := by split <;> omega
            rw [em]
            have e2 : putF "number" (iv (min b.set_ (2 * n))) (kF ⟨b.cost, b.many + 1, b.set_⟩) = kF ⟨b.cost, b.many + 1, min b.set_ (2 * n)⟩ := kF_pnumber _ _
            rw [e2]
            have et : turn L h (2 * n) b = ⟨b.cost, b.many + 1, min b.set_ (2 * n)⟩ := by
              unfold turn
              rw [if_neg c1, if_pos c2]
            rw [et] at St
            exact ⟨q, _, _, _, rfl, Same.over (Same.over s5 hq0) hq0, hq0, ⟨dq, upd_same⟩, St⟩
          · refine if_false_of (by rw [dec_iv]; exact decide_eq_false c2) ?_
            have et : turn L h (2 * n) b = b := by
              unfold turn
              rw [if_neg c1, if_neg c2]
            rw [et] at St
            exact ⟨q, _, _, _, rfl, s5, hq0, ⟨dq, hq4⟩, St⟩
      · refine if_false_of (decide_eq_false c) ?_
        exact ⟨q, b, _, _, rfl, s3, hq0, ⟨dq, hq⟩, sees_skip hs S h0 c⟩
    · rintro σ H3 ⟨q, b, y4, y5, rfl, s3, hq0, kq, S⟩
      exact ⟨_, rfl, k H3 q b s3 (sees_all wf.c1 hs S) kq⟩
/-! ### height_for -/
def spHeight (a : Ad) : Sp := fun vs H Q _ => ∃ (p l : Addr) (L : Si98.Land) (m s : Nat), vs = [.ref p, iv m, iv s] ∧ LandAt a H p l L ∧ WF L ∧ s < 2 ^ L.count ∧ Si98.has s 0 = false ∧
  ∀ H' : Hp, Same H H' → Q (optV (L.for_ m s)) H'
theorem scHe : FnScope ["land", "money", "kept", "height"] ["land", "money", "kept"] (defScope sHeight) := ⟨rfl, rfl, rfl, by decide +kernel, rfl, by decide +kernel, by decide +kernel⟩
theorem ok_height {f : Addr} (F : FunAt K "height_for" "height_for" sHeight f) (M : Nam K mg "height_for" f) (T : Txt K mg a) (cL : Cal P w K mg base CX0 4 "least_price" ["land", "kept", "height"] (spLeast a)) : Cal P w K mg base CX0 5 "height_for" ["land", "money", "kept"] (spHeight a) := by
  obtain ⟨fd, F⟩ := F
  refine ⟨f, ⟨fd, ?_, F.binds fun _ _ _ _ _ _ us hl => match us, hl with | [_, _, _], _ => rfl⟩, M⟩
  refine F.ok scHe (fun vs H Q E h => ?_) (fun cdv A outer s H vs Q E hr h => ⟨_,
    pss_cons (ps_for PassesOwn.never rfl (pi_range1 rfl T.bRange (pa_cons (pe_num rfl T.cHEIGHT) pa_nil)) (pg_name (i := 3) scHe.nd rfl (Or.inl rfl))
      (pss_one (ps_if (pt_cmpR op_gt (pe_fld (pe_cd cL hr rfl pass0 (pa_cons (pv 0) (pa_cons (pv 2) (pa_cons (pe_op op_add (pv 3) pe_int) pa_nil)))) rfl) (pv 1) (nomark _)) (pss_one (ps_ret (pv 3))) pss_nil)))
    (pss_one (ps_ret pe_non)), ?_⟩)
  · obtain ⟨p, l, L, m, s, rfl, _⟩ := h
    rfl
  · obtain ⟨p, l, L, m, s, rfl, hL, wf, hs, h0, k⟩ := h
    refine ⟨100, rfl, by decide, by decide, for_range (lo := 0) (n := 100) (fun i σ H' => ∃ y3 : Option V, σ = [some (.ref p), some (iv m), some (iv s), y3] ∧ Same H H' ∧ ∀ j, j < i → tooDear L m s (j + 1) = false)
      ⟨none, rfl, Same.refl H, fun j hj => absurd hj (Nat.not_lt_zero _)⟩ ?_ ?_⟩
    · rintro i σ H1 hi ⟨y3, rfl, s1, hno⟩
      rw [Int.zero_add]
      refine ⟨_, rfl, _, rfl, _, rfl, _, _, rfl, rfl, p, l, L, s, i + 1, rfl, hL.same s1, wf, hs, h0, fun H2 q b s2 eb ⟨dq, hq⟩ => ?_⟩
      refine ⟨q, a.CK, dq, _, _, rfl, hq, T.clK, T.nK1, kF_price b, _, rfl, _, _, rfl, rfl, _, rfl, ?_⟩
      have et := tooDear_of (m := m) eb
      by_cases c : m < b.cost
      · refine if_true_of (decide_eq_true (by omega)) ?_
        refine ⟨_, rfl, ?_⟩
        have e := k H2 (s1.trans s2)
        rw [for_some wf hs h0 hi hno (et.trans (decide_eq_true c))] at e
        exact e
      · refine if_false_of (decide_eq_false (by omega)) ?_
        refine ⟨_, rfl, s1.trans s2, fun j hj => ?_⟩
        by_cases cj : j < i
        · exact hno j cj
        · have ej : j = i := by omega
          rw [ej, et]
          exact decide_eq_false c
    · rintro σ H1 ⟨y3, rfl, s1, hno⟩
      have e := k H1 s1
      rw [for_none wf hs h0 hno] at e
      exact e
end
end Dk
namespace Dk
open PySem PySem.Spec PyProof.Rows L2
/-- a refusal by that number, over a heap in which all stands that stood -/
def Ref (a : Ad) (H : Hp) (E : XK) (c : Int) : Prop := ∀ (H' : Hp) (d : Addr), Same H H' → H' d = some (.xd [(("code" : Str), .int c)]) → E (.ref a.CR) (some d) H'
theorem Ref.at_ {a : Ad} {H0 H : Hp} {E : XK} {c : Int} (r : Ref a H0 E c) (s : Same H0 H) : ∀ d, H d = none → E (.ref a.CR) (some d) (upd H d (.xd [(("code" : Str), .int c)])) := fun d hd => r _ d (s.trans (Same.new hd)) upd_same
theorem Ref.later {a : Ad} {H0 H : Hp} {E : XK} {c : Int} (r : Ref a H0 E c) (s : Same H0 H) : Ref a H E c := fun H' d s' hd => r H' d (s.trans s') hd
theorem free_upd {H : Hp} {p b : Addr} {o : HO} (h : upd H p o b = none) : H b = none := by
  by_cases c : b = p
  · rw [c, upd_same] at h
    cases h
  · rw [upd_ne c] at h
    exact h
/-- whatever the specification refuses may be refused -/
def Refs (a : Ad) (H : Hp) (E : XK) (L : Si98.Land) (q : Si98.Call) : Prop := ∀ v, Si98.step L q = (L, Si98.ok v) → Ref a H E v
/-- a call that changes nothing: what the specification answers -/
def Reads (H : Hp) (Q : VK) (L : Si98.Land) (q : Si98.Call) : Prop := ∀ (an : Si98.Ans) (H' : Hp) (z : Addr), Si98.step L q = (L, an) → Same H H' → H z = none → H' z = some (.lst ((an.v :: an.l).map V.int)) → Q (.ref z) H'
section
variable {P : Program} {w : World} {K : PySem.W.Frag} {mg : Str → Option Value} {base : Heap} {a : Ad}
/-! ### refuse_where -/
def spRefuse (a : Ad) : Sp := fun vs H Q E => ∃ (b : Bool) (c : Int), vs = [.bl b, .int c] ∧ (b = true → ∀ d, H d = none → E (.ref a.CR) (some d) (upd H d (.xd [(("code" : Str), .int c)]))) ∧ (b = false → Q .non H)
theorem scRw : FnScope ["truth", "code"] ["truth", "code"] (defScope sRefuse) := ⟨rfl, rfl, rfl, by decide +kernel, rfl, by decide +kernel, by decide +kernel⟩
theorem ok_refuse {f : Addr} (F : FunAt K "refuse_where" "refuse_where" sRefuse f) (M : Nam K mg "refuse_where" f) (T : Txt K mg a) : Cal P w K mg base (L2.CX P w) 3 "refuse_where" ["truth", "code"] (spRefuse a) := by
  obtain ⟨fd, F⟩ := F
  refine ⟨f, ⟨fd, ?_, F.binds fun _ _ _ _ _ _ us hl => match us, hl with | [_, _], _ => rfl⟩, M⟩
  refine F.okX scRw (fun vs H Q E h => ?_) (fun cdv A outer s H vs Q E hr h => ⟨_,
    pss_one (ps_if (pt_val (pv 0)) (pss_one (ps_raiseRf rfl T.rf hr (takes_of rfl rfl rfl rfl) (by exact (pa_cons (pv 1) pa_nil)))) pss_nil), ?_⟩)
  · obtain ⟨b, c, rfl, _⟩ := h
    rfl
  · obtain ⟨b, c, rfl, kR, kN⟩ := h
    refine ⟨_, rfl, _, rfl, ?_⟩
    cases b with
    | true => exact if_true_of rfl ⟨_, rfl, _, rfl, fun d hd => kR rfl d hd⟩
    | false => exact if_false_of rfl (kN rfl)
/-! ### call_at -/
def spCallAt (K : PySem.W.Frag) (a : Ad) : Sp := fun vs H Q _ => ∃ (al : Addr) (ns : List Int) (i : Nat) (p : Int) (n : Nat), vs = [.ref al, iv i] ∧ SqL K H al (ns.map V.int) ∧ ns[i]? = some p ∧ 0 ≤ p ∧ numbersOf[p.toNat]? = some (n : Int) ∧ i + 1 + n ≤ ns.length ∧
  ∀ (H' : Hp) (c sl : Addr), Same H H' → (∃ dx, H' c = some (.ins a.CC dx (cF p sl (i + 1 + n)))) → H' sl = some (.lst (((ns.drop (i + 1)).take n).map V.int)) → Q (.ref c) H'
theorem cut_is {ns : List Int} {i n : Nat} (h : i + 1 + n ≤ ns.length) : cutV (ns.map V.int) (some ((i : Int) + 1)) (some ((i : Int) + 1 + (n : Int))) = ((ns.drop (i + 1)).take n).map V.int := by
  have e1 : (i : Int) + 1 = ((i + 1 : Nat) : Int) := by omega
  have e2 : ((i + 1 : Nat) : Int) + (n : Int) = ((i + 1 + n : Nat) : Int) := by omega
  rw [e1, e2]
  unfold cutV
  rw [HT.sIx_nat, HT.sIx_nat, List.length_map, List.map_take, List.map_drop]
  have e3 : min (i + 1) ns.length = i + 1 := by omega
  have e4 : min (i + 1 + n) ns.length = i + 1 + n := by omega
  rw [e3, e4, Nat.add_sub_cancel_left]
theorem scCa : FnScope ["calls", "at", "kind", "end"] ["calls", "at"] (defScope sCallAt) := ⟨rfl, rfl, rfl, by decide +kernel, rfl, by decide +kernel, by decide +kernel⟩
theorem ok_callat {f : Addr} (F : FunAt K "call_at" "call_at" sCallAt f) (M : Nam K mg "call_at" f) (T : Txt K mg a) (cC : CalI P w K mg base CX0 1 a.CC ["self", "kind", "numbers", "behind"] (spCallI a)) : Cal P w K mg base CX0 3 "call_at" ["calls", "at"] (spCallAt K a) := by
  obtain ⟨fd, F⟩ := F
  refine ⟨f, ⟨fd, ?_, F.binds fun _ _ _ _ _ _ us hl => match us, hl with | [_, _], _ => rfl⟩, M⟩
  refine F.ok scCa (fun vs H Q E h => ?_) (fun cdv A outer s H vs Q E hr h => ⟨_,
    pss_cons (ps_set (i := 2) scCa.nd rfl (Or.inl rfl) (pe_ix ix_list (pv 0) (pv 1) (fun _ _ => rfl)))
    (pss_cons (ps_set (i := 3) scCa.nd rfl (Or.inl rfl) (pe_op op_add (pe_op op_add (pv 1) pe_int) (pe_ix ix_tup (pe_glob (v := .ref a.nums) rfl T.gNums rfl) (pv 2) (fun _ _ => rfl))))
    (pss_one (ps_ret (pe_mkd cC hr rfl T.gC pass0 (pa_cons (pv 2) (pa_cons (pe_slice sl_list (pv 0) (po_some (pe_op op_add (pv 1) pe_int)) (po_some (pv 3))) (pa_cons (pv 3) pa_nil))))))), ?_⟩)
  · obtain ⟨al, ns, i, p, n, rfl, _⟩ := h
    rfl
  · obtain ⟨al, ns, i, p, n, rfl, hS, hp, hp0, hn, hle, k⟩ := h
    have g1 : (ns.map V.int)[i]? = some (.int p) := by
      rw [List.getElem?_map, hp]
      rfl
    have g2 : (numbersOf.map V.int)[p.toNat]? = some (.int (n : Int)) := by
      rw [List.getElem?_map, hn]
      rfl
    have ep : p = ((p.toNat : Nat) : Int) := by omega
    refine ⟨_, rfl, _, rfl, al, _, _, _, rfl, rfl, hS, atI_nat g1, ?_⟩
    refine ⟨_, rfl, _, _, rfl, rfl, _, rfl, a.nums, _, _, _, rfl, rfl, T.lNums H, at_of ep g2, _, _, rfl, rfl, ?_⟩
    refine ⟨_, rfl, _, rfl, _, rfl, _, _, rfl, rfl, _, rfl, _, rfl, _, rfl, al, _, rfl, hS, fun sl hsl => ?_⟩
    refine ⟨_, rfl, fun x dx nx nd ne => ?_⟩
    rw [cut_is hle] at *
    refine ⟨x, dx, sl, p, i + 1 + n, rfl, upd_same, fun H2 hx kp => ⟨rfl, ?_⟩⟩
    have s1 : Same H (upd H sl (.lst (((ns.drop (i + 1)).take n).map V.int))) := Same.new hsl
    have s2 : Same (upd H sl (.lst (((ns.drop (i + 1)).take n).map V.int))) H2 := Same.made nx nd kp
    exact k H2 x sl (s1.trans s2) ⟨dx, hx⟩ (s2 _ _ upd_same)
/-! ### begins -/
def spBegins (a : Ad) : Sp := fun vs H Q E => ∃ (ln lp l : Addr) (L : Si98.Land) (n : Nat), vs = [.ref ln, iv n] ∧ LineAt a H ln lp l L ∧ Refs a H E L (.begins n) ∧
  (Si98.step L (.begins n) = (⟨n, []⟩, Si98.ok 0) → ∀ (H' : Hp) (z lp' l' : Addr), H z = none → H' z = some (.lst [.int 0]) → LineAt a H' ln lp' l' ⟨n, []⟩ → H l' = none → (∀ b o, H b = some o → b ≠ ln → H' b = some o) → Q (.ref z) H')
theorem scBe : FnScope ["line", "many"] ["line", "many"] (defScope sBegins) := ⟨rfl, rfl, rfl, by decide +kernel, rfl, by decide +kernel, by decide +kernel⟩
theorem begins_no {L : Si98.Land} {n : Nat} (h : n < 1 ∨ 7 < n) : Si98.step L (.begins n) = (L, Si98.ok (-1)) := if_pos h
theorem begins_yes {L : Si98.Land} {n : Nat} (h : ¬ (n < 1 ∨ 7 < n)) : Si98.step L (.begins n) = (⟨n, []⟩, Si98.ok 0) := if_neg h
theorem ok_begins {f : Addr} (F : FunAt K "begins" "begins" sBegins f) (M : Nam K mg "begins" f) (T : Txt K mg a) (cR : Cal P w K mg base (L2.CX P w) 3 "refuse_where" ["truth", "code"] (spRefuse a))
    (cL : CalI P w K mg base CX0 1 a.CL ["self", "many"] (spLandI a)) : Cal P w K mg base (L2.CX P w) 4 "begins" ["line", "many"] (spBegins a) := by
  obtain ⟨fd, F⟩ := F
  refine ⟨f, ⟨fd, ?_, F.binds fun _ _ _ _ _ _ us hl => match us, hl with | [_, _], _ => rfl⟩, M⟩
  refine F.okX scBe (fun vs H Q E h => ?_) (fun cdv A outer s H vs Q E hr h => ⟨_,
    pss_cons (ps_expr (pe_cd cR hr rfl passX (pa_cons (pe_not (pe_chain op_le op_le pe_int (pv 1) (pe_num rfl T.cCOMP))) (pa_cons (pe_num rfl T.cNOTSO) pa_nil))))
    (pss_cons (ps_fld (pv 0) (pe_mkd cL (hr.mono (by decide)) rfl T.gL pass0 (pa_cons (pv 1) pa_nil)) rfl)
    (pss_one (ps_ret (pe_lst (pa_cons pe_int pa_nil))))), ?_⟩)
  · obtain ⟨ln, lp, l, L, n, rfl, _⟩ := h
    rfl
  · obtain ⟨ln, lp, l, L, n, rfl, ⟨⟨dx, hln⟩, hL⟩, kR, kN⟩ := h
    refine ⟨_, rfl, _, _, rfl, rfl, _, rfl, ?_⟩
    by_cases c1 : 1 ≤ n
    · refine if_true_of (decide_eq_true (by omega)) ?_
      refine ⟨_, _, rfl, rfl, _, rfl, _, _, rfl, fun hb => Ref.at_ (kR _ (begins_no ?_)) (Same.refl H), fun hb => ?_⟩
      · have := of_decide_eq_false (by simpa using hb : decide ((n : Int) ≤ 7) = false)
        omega
      · have c2 := of_decide_eq_true (by simpa using hb : decide ((n : Int) ≤ 7) = true)
        refine ⟨_, rfl, fun x dy nx nd ne => ?_⟩
        refine ⟨x, dy, n, rfl, upd_same, fun H1 l' hl LA kp => ⟨rfl, ?_⟩⟩
        have hlx : l' ≠ x := fun e => by
          rw [e, upd_same] at hl
          cases hl
        have hl0 : H l' = none := by
          rw [upd_ne hlx] at hl
          by_cases c : l' = dy
          · rw [c]
            exact nd
          · rw [upd_ne c] at hl
            exact hl
        have s1 : Same H H1 := Same.made nx nd kp
        obtain ⟨⟨dz, q1⟩, ps, q2, q3, q4⟩ := LA
        have hxp : x ≠ ln := Ne.symm (ne_of_none hln nx)
        have hlp : l' ≠ ln := Ne.symm (ne_of_none hln hl0)
        have hps : ps = [] := List.eq_nil_of_length_eq_zero q3
        subst hps
        refine ⟨_, rfl, ln, a.CN, dx, _, rfl, s1 _ _ hln, T.clN, T.nN1, (by show 1 < 1000; decide), ?_⟩
        refine ⟨(by show 1 ≤ sizeLine; decide), fun z hz => ?_⟩
        rw [nF_put] at *
        have sz := Same.new (o := .lst [.int 0]) hz
        have LN : LineAt a (upd H1 ln (.ins a.CN dx (nF x))) ln x l' ⟨n, []⟩ := ⟨⟨dx, upd_same⟩, ⟨dz, (upd_ne hxp).trans q1⟩, [], (upd_ne hlp).trans q2, rfl, fun i d e => by simp at e⟩
        refine kN (begins_yes (by omega)) _ z x l' (s1.free (free_upd hz)) upd_same (LN.same sz) hl0 fun b o e hb => sz b o ?_
        rw [upd_ne hb]
        exact s1 b o e
    · refine if_false_of (decide_eq_false (by omega)) ?_
      refine ⟨_, rfl, _, _, rfl, fun hb => Ref.at_ (kR _ (begins_no (by omega))) (Same.refl H), fun hb => Bool.noConfusion hb⟩
end
end Dk
namespace Dk
open PySem PySem.Spec PyProof.Rows L2
section
variable {P : Program} {w : World} {K : PySem.W.Frag} {mg : Str → Option Value} {base : Heap} {a : Ad}
/-! ### new_dike -/
theorem dike_2 {L : Si98.Land} {x : Si98.Dike} (h : L.count ≤ x.a ∨ L.count ≤ x.b) : Si98.step L (.dike x) = (L, Si98.ok (-2)) := if_pos h
theorem dike_4 {L : Si98.Land} {x : Si98.Dike} (h : ¬ (L.count ≤ x.a ∨ L.count ≤ x.b)) (h2 : x.a = x.b) : Si98.step L (.dike x) = (L, Si98.ok (-4)) := (if_neg h).trans (if_pos h2)
theorem dike_1 {L : Si98.Land} {x : Si98.Dike} (h : ¬ (L.count ≤ x.a ∨ L.count ≤ x.b)) (h2 : ¬ x.a = x.b) (h3 : 100 < x.high ∨ x.cost < 1 ∨ 1000 < x.cost) : Si98.step L (.dike x) = (L, Si98.ok (-1)) := (if_neg h).trans ((if_neg h2).trans (if_pos h3))
theorem dike_5 {L : Si98.Land} {x : Si98.Dike} (h : ¬ (L.count ≤ x.a ∨ L.count ≤ x.b)) (h2 : ¬ x.a = x.b) (h3 : ¬ (100 < x.high ∨ x.cost < 1 ∨ 1000 < x.cost)) (h4 : 12 ≤ L.dikes.length) : Si98.step L (.dike x) = (L, Si98.ok (-5)) := (if_neg h).trans ((if_neg h2).trans ((if_neg h3).trans (if_pos h4)))
theorem dike_0 {L : Si98.Land} {x : Si98.Dike} (h : ¬ (L.count ≤ x.a ∨ L.count ≤ x.b)) (h2 : ¬ x.a = x.b) (h3 : ¬ (100 < x.high ∨ x.cost < 1 ∨ 1000 < x.cost)) (h4 : ¬ 12 ≤ L.dikes.length) : Si98.step L (.dike x) = ({ L with dikes := L.dikes ++ [x] }, Si98.ok ((L.dikes.length : Nat) : Int)) := (if_neg h).trans ((if_neg h2).trans ((if_neg h3).trans (if_neg h4)))
def spNewDike (K : PySem.W.Frag) (a : Ad) : Sp := fun vs H Q E => ∃ (p l nl : Addr) (L : Si98.Land) (x : Si98.Dike), vs = [.ref p, .ref nl] ∧ LandAt a H p l L ∧ WF L ∧ SqL K H nl [iv x.a, iv x.b, iv x.high, iv x.cost] ∧ Refs a H E L (.dike x) ∧
  (Si98.step L (.dike x) = ({ L with dikes := L.dikes ++ [x] }, Si98.ok ((L.dikes.length : Nat) : Int)) → ∀ (H' : Hp) (z : Addr), H z = none → H' z = some (.lst [iv L.dikes.length]) → LandAt a H' p l { L with dikes := L.dikes ++ [x] } → (∀ b o, H b = some o → b ≠ l → H' b = some o) → Q (.ref z) H')
theorem scNd : FnScope ["land", "numbers", "one", "other", "height", "cost"] ["land", "numbers"] (defScope sNewDike) := ⟨rfl, rfl, rfl, by decide +kernel, rfl, by decide +kernel, by decide +kernel⟩
theorem ok_newdike {f : Addr} (F : FunAt K "new_dike" "new_dike" sNewDike f) (M : Nam K mg "new_dike" f) (T : Txt K mg a) (cR : Cal P w K mg base (L2.CX P w) 3 "refuse_where" ["truth", "code"] (spRefuse a))
    (cD : CalI P w K mg base CX0 1 a.CD ["self", "one", "other", "height", "cost"] (spDikeI a)) : Cal P w K mg base (L2.CX P w) 4 "new_dike" ["land", "numbers"] (spNewDike K a) := by
  obtain ⟨fd, F⟩ := F
  refine ⟨f, ⟨fd, ?_, F.binds fun _ _ _ _ _ _ us hl => match us, hl with | [_, _], _ => rfl⟩, M⟩
  refine F.okX scNd (fun vs H Q E h => ?_) (fun cdv A outer s H vs Q E hr h => ⟨_,
    pss_cons (ps_asg (pv 1) (pg_lst rfl (pgs_cons (pg_name (i := 2) scNd.nd rfl (Or.inl rfl)) (pgs_cons (pg_name (i := 3) scNd.nd rfl (Or.inl rfl)) (pgs_cons (pg_name (i := 4) scNd.nd rfl (Or.inl rfl)) (pgs_cons (pg_name (i := 5) scNd.nd rfl (Or.inl rfl)) pgs_nil))))))
    (pss_cons (ps_expr (pe_cd cR hr rfl passX (pa_cons (pe_or (pe_cmpR op_ge (pv 2) (pe_fld (pv 0) rfl) (nomark _)) (pe_one (pe_cmpR op_ge (pv 3) (pe_fld (pv 0) rfl) (nomark _)))) (pa_cons (pe_num rfl T.cNONE) pa_nil))))
    (pss_cons (ps_expr (pe_cd cR hr rfl passX (pa_cons (pe_cmpR op_eq (pv 2) (pv 3) (nomark _)) (pa_cons (pe_num rfl T.cWRONG) pa_nil))))
    (pss_cons (ps_expr (pe_cd cR hr rfl passX (pa_cons (pe_or (pe_cmpR op_gt (pv 4) (pe_num rfl T.cHEIGHT) (nomark _)) (pe_one (pe_not (pe_chain op_le op_le pe_int (pv 5) (pe_num rfl T.cCOST))))) (pa_cons (pe_num rfl T.cNOTSO) pa_nil))))
    (pss_cons (ps_expr (pe_cd cR hr rfl passX (pa_cons (pe_cmpR op_eq (pe_callB call_len_seq (by rfl) T.bLen PySem.boot_len (pa_cons (pe_fld (pv 0) rfl) pa_nil)) (pe_num rfl T.cDIKES) (nomark _)) (pa_cons (pe_num rfl T.cFULL) pa_nil))))
    (pss_cons (ps_expr (pe_bm PySem.F.plainAttrs_list PySem.F.slot_list_append PySem.F.type_list_append mt_append (pe_fld (pv 0) rfl) (pa_cons (pe_mkd cD (hr.mono (by decide)) rfl T.gD pass0 (pa_cons (pv 2) (pa_cons (pv 3) (pa_cons (pv 4) (pa_cons (pv 5) pa_nil))))) pa_nil)))
    (pss_one (ps_ret (pe_lst (pa_cons (pe_op op_sub (pe_callB call_len_seq (by rfl) T.bLen PySem.boot_len (pa_cons (pe_fld (pv 0) rfl) pa_nil)) pe_int) pa_nil))))))))), ?_⟩)
  · obtain ⟨p, l, nl, L, x, rfl, _⟩ := h
    rfl
  · obtain ⟨p, l, nl, L, x, rfl, hL, wf, hS, kR, kN⟩ := h
    obtain ⟨⟨dx, hp⟩, ps, hl, hds⟩ := id hL
    have hlp : p ≠ l := ne_of hp hl (fun z => by cases z)
    -- one, other, height, cost = numbers
    refine ⟨_, rfl, nl, _, rfl, hS, rfl, _, _, rfl, _, _, rfl, _, _, rfl, _, _, rfl, rfl, ?_⟩
    -- the compartments
    refine ⟨_, rfl, _, rfl, p, a.CL, dx, _, _, rfl, hp, T.clL, T.nL1, lF_many _ _, _, _, rfl, rfl, _, rfl, ?_⟩
    by_cases c1 : L.count ≤ x.a
    · refine if_true_of (decide_eq_true (by omega)) ?_
      exact ⟨_, _, rfl, fun hb => Ref.at_ (kR _ (dike_2 (.inl c1))) (Same.refl H), fun hb => Bool.noConfusion hb⟩
    refine if_false_of (decide_eq_false (by omega)) ?_
    refine ⟨_, rfl, _, rfl, p, a.CL, dx, _, _, rfl, hp, T.clL, T.nL1, lF_many _ _, _, _, rfl, rfl, _, _, rfl, fun hb => Ref.at_ (kR _ (dike_2 (.inr ?_))) (Same.refl H), fun hb => ?_⟩
    · have := of_decide_eq_true hb
      omega
    have c2 : ¬ (L.count ≤ x.a ∨ L.count ≤ x.b) := by
      have := of_decide_eq_false hb
      omega
    -- both the same
    refine ⟨_, rfl, _, rfl, rfl, _, _, rfl, fun hb => Ref.at_ (kR _ (dike_4 c2 ?_)) (Same.refl H), fun hb => ?_⟩
    · rw [dec_iv] at hb
      exact of_decide_eq_true hb
    have c3 : ¬ x.a = x.b := by
      rw [dec_iv] at hb
      exact of_decide_eq_false hb
    -- the height, the cost
    refine ⟨_, rfl, _, _, rfl, rfl, _, rfl, ?_⟩
    by_cases c4 : 100 < x.high
    · refine if_true_of (decide_eq_true (by omega)) ?_
      exact ⟨_, _, rfl, fun hb => Ref.at_ (kR _ (dike_1 c2 c3 (.inl c4))) (Same.refl H), fun hb => Bool.noConfusion hb⟩
    refine if_false_of (decide_eq_false (by omega)) ?_
    refine ⟨_, rfl, _, _, rfl, rfl, _, rfl, ?_⟩
    by_cases c5 : 1 ≤ x.cost
    case neg =>
      refine if_false_of (decide_eq_false (by omega)) ?_
      exact ⟨_, rfl, _, _, rfl, fun hb => Ref.at_ (kR _ (dike_1 c2 c3 (.inr (.inl (by omega))))) (Same.refl H), fun hb => Bool.noConfusion hb⟩
    refine if_true_of (decide_eq_true (by omega)) ?_
    refine ⟨_, _, rfl, rfl, _, rfl, _, _, rfl, fun hb => Ref.at_ (kR _ (dike_1 c2 c3 (.inr (.inr ?_)))) (Same.refl H), fun hb => ?_⟩
    · have := of_decide_eq_false (by simpa using hb : decide ((x.cost : Int) ≤ 1000) = false)
      omega
    have c6 : ¬ (100 < x.high ∨ x.cost < 1 ∨ 1000 < x.cost) := by
      have := of_decide_eq_true (by simpa using hb : decide ((x.cost : Int) ≤ 1000) = true)
      omega
    -- there are twelve
    have hlen : (ps.map V.ref).length = L.dikes.length := by
      rw [List.length_map]
      exact hds.1
    refine ⟨_, rfl, p, a.CL, dx, _, _, rfl, hp, T.clL, T.nL2, lF_dikes _ _, l, _, rfl, .inl (SqL.of hl), rfl, ?_⟩
    rw [hlen]
    have e12 : decide (iv L.dikes.length = V.int 12) = decide (L.dikes.length = 12) := dec_iv _ 12
    rw [e12]
    have hn12 := wf.n12
    refine ⟨_, _, rfl, fun hb => Ref.at_ (kR _ (dike_5 c2 c3 c6 ?_)) (Same.refl H), fun hb => ?_⟩
    · have := of_decide_eq_true hb
      omega
    have c7 : ¬ 12 ≤ L.dikes.length := by
      have := of_decide_eq_false hb
      omega
    -- land.dikes.append(Dike(one, other, height, cost))
    refine ⟨_, rfl, p, a.CL, dx, _, _, rfl, hp, T.clL, T.nL2, lF_dikes _ _, .inl ⟨rfl, _, SqL.of hl⟩, ?_⟩
    refine ⟨_, rfl, _, rfl, _, rfl, _, rfl, fun y dy ny nd ne => ?_⟩
    refine ⟨y, dy, x, rfl, upd_same, fun H1 ky kp => ⟨rfl, ?_⟩⟩
    have s1 : Same H H1 := Same.made ny nd kp
    refine ⟨l, _, _, rfl, rfl, s1 _ _ hl, ?_, ?_⟩
    · rw [hlen]
      exact small (by omega)
    have em : ps.map V.ref ++ [V.ref y] = (ps ++ [y]).map V.ref := by simp
    rw [em]
    have hpl : (upd H1 l (.lst ((ps ++ [y]).map V.ref))) p = some (.ins a.CL dx (lF L.count l)) := (upd_ne hlp).trans (s1 _ _ hp)
    refine ⟨_, rfl, p, a.CL, dx, _, _, rfl, hpl, T.clL, T.nL2, lF_dikes _ _, l, _, rfl, .inl (SqL.of upd_same), _, _, rfl, rfl, (by show 1 ≤ sizeLine; decide), fun z hz => ?_⟩
    have sz := Same.new (o := .lst [.int ((((ps ++ [y]).map V.ref).length : Nat) - 1)]) hz
    have ez : V.int ((((ps ++ [y]).map V.ref).length : Nat) - 1) = iv L.dikes.length := by
      have : ((ps ++ [y]).map V.ref).length = L.dikes.length + 1 := by
        rw [List.length_map, List.length_append, hds.1]
        rfl
      rw [this]
      show V.int _ = V.int _
      congr 1
      omega
    have LN : LandAt a (upd H1 l (.lst ((ps ++ [y]).map V.ref))) p l { L with dikes := L.dikes ++ [x] } := by
      refine ⟨⟨dx, hpl⟩, ps ++ [y], upd_same, ?_, ?_⟩
      · show (ps ++ [y]).length = (L.dikes ++ [x]).length
        rw [List.length_append, List.length_append, hds.1]
        rfl
      · intro i d hd
        have hd' : (L.dikes ++ [x])[i]? = some d := hd
        by_cases ci : i < L.dikes.length
        · rw [List.getElem?_append_left ci] at hd'
          obtain ⟨pd, hpd, dd, hdd⟩ := hds.2 i d hd'
          refine ⟨pd, ?_, dd, (upd_ne (ne_of hdd hl (fun z => by cases z))).trans (s1 _ _ hdd)⟩
          rw [List.getElem?_append_left (by rw [hds.1]; exact ci)]
          exact hpd
        · rw [List.getElem?_append_right (Nat.le_of_not_lt ci)] at hd'
          have ei : i - L.dikes.length = 0 := by
            cases q : i - L.dikes.length with
            | zero => rfl
            | succ k =>
              rw [q] at hd'
              simp at hd'
          rw [ei] at hd'
          have ed : x = d := by simpa using hd'
          subst ed
          obtain ⟨dd, hdd⟩ := ky
          refine ⟨y, ?_, dd, (upd_ne (Ne.symm (ne_of_none hl ny))).trans hdd⟩
          rw [List.getElem?_append_right (by rw [hds.1]; exact Nat.le_of_not_lt ci), hds.1, ei]
          rfl
    refine kN (dike_0 c2 c3 c6 c7) _ z (s1.free (free_upd hz)) (upd_same.trans (congrArg (fun v => some (HO.lst [v])) ez)) (LN.same sz) fun b o e hb => sz b o ?_
    rw [upd_ne hb]
    exact s1 b o e
end
end Dk
namespace Dk
open PySem PySem.Spec PyProof.Rows L2
theorem ints_map (l : List Nat) : (Si98.ints l).map V.int = l.map iv := by
  unfold Si98.ints
  rw [List.map_map]
  rfl
theorem iv_ints (l : List Nat) : l.map iv = (l.map fun (n : Nat) => (n : Int)).map V.int := by
  rw [List.map_map]
  rfl
section
variable {P : Program} {w : World} {K : PySem.W.Frag} {mg : Str → Option Value} {base : Heap} {a : Ad}
/-! ### floods -/
theorem floods_1 {L : Si98.Land} {h : Nat} (c : 100 < h) : Si98.step L (.floods h) = (L, Si98.ok (-1)) := if_pos c
theorem floods_0 {L : Si98.Land} {h : Nat} (c : ¬ 100 < h) : Si98.step L (.floods h) = (L, ⟨((((L.flooded h).filter fun v => v != 0).length : Nat) : Int), Si98.ints ((L.flooded h).filter fun v => v != 0)⟩) := if_neg c
def spFloods (a : Ad) : Sp := fun vs H Q E => ∃ (p l : Addr) (L : Si98.Land) (h : Nat), vs = [.ref p, iv h] ∧ LandAt a H p l L ∧ WF L ∧ Refs a H E L (.floods h) ∧ Reads H Q L (.floods h)
theorem scFs : FnScope ["land", "height", "some"] ["land", "height"] (defScope sFloods) := ⟨rfl, rfl, rfl, by decide +kernel, rfl, by decide +kernel, by decide +kernel⟩
theorem ok_floods {f : Addr} (F : FunAt K "floods" "floods" sFloods f) (M : Nam K mg "floods" f) (T : Txt K mg a) (cR : Cal P w K mg base (L2.CX P w) 3 "refuse_where" ["truth", "code"] (spRefuse a))
    (cF : CalM P w K mg base CX0 1 a.CL "flooded" ["self", "height"] (spFlooded a)) : Cal P w K mg base (L2.CX P w) 4 "floods" ["land", "height"] (spFloods a) := by
  obtain ⟨fd, F⟩ := F
  refine ⟨f, ⟨fd, ?_, F.binds fun _ _ _ _ _ _ us hl => match us, hl with | [_, _], _ => rfl⟩, M⟩
  refine F.okX scFs (fun vs H Q E h => ?_) (fun cdv A outer s H vs Q E hr h => ⟨_,
    pss_cons (ps_expr (pe_cd cR hr rfl passX (pa_cons (pe_cmpR op_gt (pv 1) (pe_num rfl T.cHEIGHT) (nomark _)) (pa_cons (pe_num rfl T.cNOTSO) pa_nil))))
    (pss_cons (ps_set (i := 2) scFs.nd rfl (Or.inl rfl) (pe_callB cr_sorted (by rfl) T.bSorted (by decide +kernel) (pa_cons (pe_slice sl_list (pe_md (pv 0) T.clL cF (hr.mono (by decide)) pass0 (pa_cons (pv 1) pa_nil)) (po_some pe_int) po_none) pa_nil)))
    (pss_one (ps_ret (pe_op op_cat (pe_lst (pa_cons (pe_callB call_len_seq (by rfl) T.bLen PySem.boot_len (pa_cons (pv 2) pa_nil)) pa_nil)) (pv 2))))), ?_⟩)
  · obtain ⟨p, l, L, h, rfl, _⟩ := h
    rfl
  · obtain ⟨p, l, L, h, rfl, hL, wf, kR, kN⟩ := h
    obtain ⟨⟨dx, hp⟩, _⟩ := id hL
    refine ⟨_, rfl, _, _, rfl, rfl, _, _, rfl, fun hb => Ref.at_ (kR _ (floods_1 ?_)) (Same.refl H), fun hb => ?_⟩
    · have := of_decide_eq_true hb
      omega
    have c : ¬ 100 < h := by
      have := of_decide_eq_false hb
      omega
    refine ⟨_, rfl, p, dx, _, rfl, hp, lF_flooded _ _, _, rfl, p, l, L, h, rfl, hL, wf, fun H1 q fs s1 hq0 hq Fd C => ?_⟩
    refine ⟨_, rfl, q, _, rfl, SqL.of hq, fun q2 hq2 => ?_⟩
    have ec : cutV (fs.map iv) (some 1) none = ((fs.drop 1).map fun (n : Nat) => (n : Int)).map V.int := by
      have hne : 1 ≤ fs.length := by
        have := (List.getElem?_eq_some_iff.mp Fd.hd).1
        omega
      have e1 : HT.sIx (fs.map iv).length 0 (some 1) = min 1 (fs.map iv).length := HT.sIx_nat _ _ 1
      unfold cutV
      rw [e1, HT.sIx_none, List.length_map, Nat.min_eq_left hne, ← iv_ints, List.map_drop]
      refine List.take_of_length_le ?_
      rw [List.length_drop, List.length_map]
      exact Nat.le_refl _
    rw [ec]
    have hlen : ((fs.drop 1).map fun (n : Nat) => (n : Int)).length ≤ 7 := by
      rw [List.length_map, List.length_drop]
      have := found_len Fd
      have := wf.c7
      omega
    refine ⟨q2, (fs.drop 1).map fun (n : Nat) => (n : Int), rfl, SqL.of upd_same, by omega, fun ns z perm rise hz => ?_⟩
    have en := floods_eq wf Fd C perm rise
    have hnl : ns.length ≤ 7 := by
      rw [perm.length_eq]
      exact hlen
    have s2 : Same H (upd (upd H1 q2 (.lst (((fs.drop 1).map fun (n : Nat) => (n : Int)).map V.int))) z (.lst (ns.map V.int))) := (s1.trans (Same.new hq2)).trans (Same.new hz)
    have hz2 : (upd (upd H1 q2 (.lst (((fs.drop 1).map fun (n : Nat) => (n : Int)).map V.int))) z (.lst (ns.map V.int))) z = some (.lst (ns.map V.int)) := upd_same
    generalize upd (upd H1 q2 (.lst (((fs.drop 1).map fun (n : Nat) => (n : Int)).map V.int))) z (.lst (ns.map V.int)) = H2 at s2 hz2
    refine ⟨_, rfl, z, _, rfl, .inl (SqL.of hz2), (by show 1 ≤ sizeLine; decide), fun t ht => ?_⟩
    refine ⟨_, rfl, t, z, _, _, rfl, rfl, upd_same, (Same.new ht) _ _ hz2, ?_, fun u hu => ?_⟩
    · show 1 + (ns.map V.int).length ≤ sizeLine
      rw [List.length_map]
      exact Nat.le_of_lt (small (by omega))
    refine kN _ _ u (floods_0 c) ((s2.trans (Same.new ht)).trans (Same.new hu)) (s2.free (free_upd hu)) (upd_same.trans ?_)
    rw [← en, List.length_map]
    have el : ((((L.flooded h).filter fun v => v != 0).length : Nat) : Int) = (ns.length : Int) := by
      rw [en]
      unfold Si98.ints
      rw [List.length_map]
    rw [el]
    rfl
/-! ### dry -/
theorem dry_2 {L : Si98.Land} {v : Nat} (c : L.count ≤ v) : Si98.step L (.dry v) = (L, Si98.ok (-2)) := if_pos c
theorem dry_4 {L : Si98.Land} {v : Nat} (c : ¬ L.count ≤ v) (c2 : v = 0) : Si98.step L (.dry v) = (L, Si98.ok (-4)) := (if_neg c).trans (if_pos c2)
theorem dry_6 {L : Si98.Land} {v : Nat} (c : ¬ L.count ≤ v) (c2 : ¬ v = 0) (e : L.dry v = none) : Si98.step L (.dry v) = (L, Si98.ok (-6)) := by
  refine (if_neg c).trans ((if_neg c2).trans ?_)
  rw [e]
theorem dry_0 {L : Si98.Land} {v h : Nat} (c : ¬ L.count ≤ v) (c2 : ¬ v = 0) (e : L.dry v = some h) : Si98.step L (.dry v) = (L, Si98.ok ((h : Nat) : Int)) := by
  refine (if_neg c).trans ((if_neg c2).trans ?_)
  rw [e]
def spDry (a : Ad) : Sp := fun vs H Q E => ∃ (p l : Addr) (L : Si98.Land) (v : Nat), vs = [.ref p, iv v] ∧ LandAt a H p l L ∧ WF L ∧ Refs a H E L (.dry v) ∧ Reads H Q L (.dry v)
theorem scDy : FnScope ["land", "compartment", "height"] ["land", "compartment"] (defScope sDry) := ⟨rfl, rfl, rfl, by decide +kernel, rfl, by decide +kernel, by decide +kernel⟩
theorem ok_dry {f : Addr} (F : FunAt K "dry" "dry" sDry f) (M : Nam K mg "dry" f) (T : Txt K mg a) (cR : Cal P w K mg base (L2.CX P w) 3 "refuse_where" ["truth", "code"] (spRefuse a))
    (cU : CalM P w K mg base CX0 2 a.CL "dry_up_to" ["self", "compartment"] (spDryUp a)) : Cal P w K mg base (L2.CX P w) 4 "dry" ["land", "compartment"] (spDry a) := by
  obtain ⟨fd, F⟩ := F
  refine ⟨f, ⟨fd, ?_, F.binds fun _ _ _ _ _ _ us hl => match us, hl with | [_, _], _ => rfl⟩, M⟩
  refine F.okX scDy (fun vs H Q E h => ?_) (fun cdv A outer s H vs Q E hr h => ⟨_,
    pss_cons (ps_expr (pe_cd cR hr rfl passX (pa_cons (pe_cmpR op_ge (pv 1) (pe_fld (pv 0) rfl) (nomark _)) (pa_cons (pe_num rfl T.cNONE) pa_nil))))
    (pss_cons (ps_expr (pe_cd cR hr rfl passX (pa_cons (pe_cmpR op_eq (pv 1) (pe_num rfl T.cSEA) (nomark _)) (pa_cons (pe_num rfl T.cWRONG) pa_nil))))
    (pss_cons (ps_set (i := 2) scDy.nd rfl (Or.inl rfl) (pe_md (pv 0) T.clL cU (hr.mono (by decide)) pass0 (pa_cons (pv 1) pa_nil)))
    (pss_cons (ps_expr (pe_cd cR hr rfl passX (pa_cons (pe_cmp (pc_isN (pv 2)) rfl) (pa_cons (pe_num rfl T.cALWAYS) pa_nil))))
    (pss_one (ps_ret (pe_lst (pa_cons (pv 2) pa_nil))))))), ?_⟩)
  · obtain ⟨p, l, L, v, rfl, _⟩ := h
    rfl
  · obtain ⟨p, l, L, v, rfl, hL, wf, kR, kN⟩ := h
    obtain ⟨⟨dx, hp⟩, _⟩ := id hL
    refine ⟨_, rfl, _, rfl, p, a.CL, dx, _, _, rfl, hp, T.clL, T.nL1, lF_many _ _, _, _, rfl, rfl, _, _, rfl, fun hb => Ref.at_ (kR _ (dry_2 ?_)) (Same.refl H), fun hb => ?_⟩
    · have := of_decide_eq_true hb
      omega
    have c1 : ¬ L.count ≤ v := by
      have := of_decide_eq_false hb
      omega
    have e0 : decide (iv v = V.int 0) = decide (v = 0) := dec_iv v 0
    refine ⟨_, rfl, rfl, ?_⟩
    rw [e0]
    refine ⟨_, _, rfl, fun hb => Ref.at_ (kR _ (dry_4 c1 (of_decide_eq_true hb))) (Same.refl H), fun hb => ?_⟩
    have c2 : ¬ v = 0 := of_decide_eq_false hb
    refine ⟨_, rfl, p, dx, _, rfl, hp, lF_dryup _ _, _, rfl, p, l, L, v, rfl, hL, wf, c2, fun H1 s1 => ?_⟩
    refine ⟨_, rfl, ?_⟩
    cases e : L.dry v with
    | none => exact ⟨_, _, rfl, fun _ => Ref.at_ (kR _ (dry_6 c1 c2 e)) s1, fun hb => Bool.noConfusion hb⟩
    | some h =>
      refine ⟨_, _, rfl, fun hb => Bool.noConfusion hb, fun hb => ?_⟩
      refine ⟨_, rfl, (by show 1 ≤ sizeLine; decide), fun z hz => ?_⟩
      exact kN _ _ z (dry_0 c1 c2 e) (s1.trans (Same.new hz)) (s1.free hz) upd_same
/-! ### ask_kept -/
theorem asked_1 {L : Si98.Land} {s : Nat} (c : s = 0 ∨ 2 ^ L.count ≤ s) : L.asked s = -1 := if_pos c
theorem asked_4 {L : Si98.Land} {s : Nat} (c : ¬ (s = 0 ∨ 2 ^ L.count ≤ s)) (c2 : Si98.has s 0 = true) : L.asked s = -4 := (if_neg c).trans (if_pos c2)
theorem asked_0 {L : Si98.Land} {s : Nat} (c : ¬ (s = 0 ∨ 2 ^ L.count ≤ s)) (c2 : ¬ Si98.has s 0 = true) : L.asked s = 0 := (if_neg c).trans (if_neg c2)
def spAsk (a : Ad) : Sp := fun vs H Q E => ∃ (p l : Addr) (L : Si98.Land) (s : Nat), vs = [.ref p, iv s] ∧ LandAt a H p l L ∧ (L.asked s < 0 → Ref a H E (L.asked s)) ∧
  (¬ L.asked s < 0 → s < 2 ^ L.count → Si98.has s 0 = false → ∀ H' : Hp, Same H H' → Q .non H')
theorem shr_pos {s c : Nat} : decide ((0 : Int) < (s : Int) / 2 ^ c) = decide (2 ^ c ≤ s) := by
  have e : (s : Int) / 2 ^ c = ((s / 2 ^ c : Nat) : Int) := by
    have : (2 : Int) ^ c = ((2 ^ c : Nat) : Int) := by simp
    rw [this]
    simp
  rw [e, decide_eq_decide]
  have hp : 0 < 2 ^ c := Nat.two_pow_pos c
  constructor
  · intro h
    have h' : 0 < s / 2 ^ c := by omega
    exact (Nat.div_pos_iff.mp h').2
  · intro h
    have := Nat.div_pos h hp
    omega
theorem scAk : FnScope ["land", "kept"] ["land", "kept"] (defScope sAskKept) := ⟨rfl, rfl, rfl, by decide +kernel, rfl, by decide +kernel, by decide +kernel⟩
theorem ok_ask {f : Addr} (F : FunAt K "ask_kept" "ask_kept" sAskKept f) (M : Nam K mg "ask_kept" f) (T : Txt K mg a) (cR : Cal P w K mg base (L2.CX P w) 3 "refuse_where" ["truth", "code"] (spRefuse a))
    (cH : Cal P w K mg base CX0 1 "has" ["number", "compartment"] spHas) : Cal P w K mg base (L2.CX P w) 4 "ask_kept" ["land", "kept"] (spAsk a) := by
  obtain ⟨fd, F⟩ := F
  refine ⟨f, ⟨fd, ?_, F.binds fun _ _ _ _ _ _ us hl => match us, hl with | [_, _], _ => rfl⟩, M⟩
  refine F.okX scAk (fun vs H Q E h => ?_) (fun cdv A outer s H vs Q E hr h => ⟨_,
    pss_cons (ps_expr (pe_cd cR hr rfl passX (pa_cons (pe_or (pe_cmpR op_eq (pv 1) pe_int (nomark _)) (pe_one (pe_cmpR op_gt (pe_op op_shrN (pv 1) (pe_fld (pv 0) rfl)) pe_int (nomark _)))) (pa_cons (pe_num rfl T.cNOTSO) pa_nil))))
    (pss_one (ps_expr (pe_cd cR hr rfl passX (pa_cons (pe_cd cH (hr.mono (by decide)) rfl pass0 (pa_cons (pv 1) (pa_cons (pe_num rfl T.cSEA) pa_nil))) (pa_cons (pe_num rfl T.cWRONG) pa_nil))))), ?_⟩)
  · obtain ⟨p, l, L, s, rfl, _⟩ := h
    rfl
  · obtain ⟨p, l, L, s, rfl, hL, kR, kN⟩ := h
    obtain ⟨⟨dx, hp⟩, _⟩ := id hL
    have e0 : decide (iv s = V.int 0) = decide (s = 0) := dec_iv s 0
    refine ⟨_, rfl, rfl, _, rfl, ?_⟩
    rw [e0]
    by_cases c0 : s = 0
    · refine if_true_of (decide_eq_true c0) ?_
      have ea := asked_1 (L := L) (.inl c0)
      rw [ea] at kR
      exact ⟨_, _, rfl, fun hb => Ref.at_ (kR (by decide)) (Same.refl H), fun hb => Bool.noConfusion hb⟩
    refine if_false_of (decide_eq_false c0) ?_
    refine ⟨_, rfl, _, rfl, p, a.CL, dx, _, _, rfl, hp, T.clL, T.nL1, lF_many _ _, _, L.count, rfl, rfl, _, _, rfl, rfl, ?_⟩
    refine ⟨_, _, rfl, fun hb => ?_, fun hb => ?_⟩
    · have ea := asked_1 (L := L) (.inr (of_decide_eq_true ((shr_pos (s := s) (c := L.count)).symm.trans hb)))
      rw [ea] at kR
      exact Ref.at_ (kR (by decide)) (Same.refl H)
    have c1 : ¬ (s = 0 ∨ 2 ^ L.count ≤ s) := fun z => z.elim c0 (of_decide_eq_false ((shr_pos (s := s) (c := L.count)).symm.trans hb))
    refine ⟨_, rfl, s, 0, rfl, _, _, rfl, fun hb => ?_, fun hb => ?_⟩
    · have ea := asked_4 c1 hb
      rw [ea] at kR
      exact Ref.at_ (kR (by decide)) (Same.refl H)
    · have c2 : ¬ Si98.has s 0 = true := by
        show ¬ s.testBit 0 = true
        rw [hb]
        exact Bool.false_ne_true
      have ea := asked_0 c1 c2
      rw [ea] at kN
      exact kN (by decide) (by omega) hb H (Same.refl H)
/-! ### raise_to -/
theorem raise_1 {L : Si98.Land} {h s : Nat} (c : 100 < h) : Si98.step L (.raise h s) = (L, Si98.ok (-1)) := if_pos c
theorem raise_a {L : Si98.Land} {h s : Nat} (c : ¬ 100 < h) (c2 : L.asked s < 0) : Si98.step L (.raise h s) = (L, Si98.ok (L.asked s)) := (if_neg c).trans (if_pos c2)
theorem raise_0 {L : Si98.Land} {h s : Nat} {b : Si98.Best} (c : ¬ 100 < h) (c2 : ¬ L.asked s < 0) (e : L.raise h s = some b) : Si98.step L (.raise h s) = (L, ⟨((b.cost : Nat) : Int), Si98.ints (b.many :: b.set_ :: L.between h b.set_)⟩) := by
  refine (if_neg c).trans ((if_neg c2).trans ?_)
  rw [e]
def spRaise (a : Ad) : Sp := fun vs H Q E => ∃ (p l : Addr) (L : Si98.Land) (h s : Nat), vs = [.ref p, iv h, iv s] ∧ LandAt a H p l L ∧ WF L ∧ Refs a H E L (.raise h s) ∧ Reads H Q L (.raise h s)
theorem scRt : FnScope ["land", "height", "kept", "found"] ["land", "height", "kept"] (defScope sRaiseTo) := ⟨rfl, rfl, rfl, by decide +kernel, rfl, by decide +kernel, by decide +kernel⟩
theorem ok_raise {f : Addr} (F : FunAt K "raise_to" "raise_to" sRaiseTo f) (M : Nam K mg "raise_to" f) (T : Txt K mg a) (cR : Cal P w K mg base (L2.CX P w) 3 "refuse_where" ["truth", "code"] (spRefuse a))
    (cA : Cal P w K mg base (L2.CX P w) 4 "ask_kept" ["land", "kept"] (spAsk a)) (cP : Cal P w K mg base CX0 4 "least_price" ["land", "kept", "height"] (spLeast a)) (cW : Cal P w K mg base CX0 2 "lower_dikes" ["land", "number", "height"] (spLower a)) :
    Cal P w K mg base (L2.CX P w) 5 "raise_to" ["land", "height", "kept"] (spRaise a) := by
  obtain ⟨fd, F⟩ := F
  refine ⟨f, ⟨fd, ?_, F.binds fun _ _ _ _ _ _ us hl => match us, hl with | [_, _, _], _ => rfl⟩, M⟩
  refine F.okX scRt (fun vs H Q E h => ?_) (fun cdv A outer s H vs Q E hr h => ⟨_,
    pss_cons (ps_expr (pe_cd cR (hr.mono (by decide)) rfl passX (pa_cons (pe_cmpR op_gt (pv 1) (pe_num rfl T.cHEIGHT) (nomark _)) (pa_cons (pe_num rfl T.cNOTSO) pa_nil))))
    (pss_cons (ps_expr (pe_cd cA hr rfl passX (pa_cons (pv 0) (pa_cons (pv 2) pa_nil))))
    (pss_cons (ps_set (i := 3) scRt.nd rfl (Or.inl rfl) (pe_cd cP hr rfl pass0 (pa_cons (pv 0) (pa_cons (pv 2) (pa_cons (pv 1) pa_nil)))))
    (pss_one (ps_ret (pe_op op_cat (pe_lst (pa_cons (pe_fld (pv 3) rfl) (pa_cons (pe_fld (pv 3) rfl) (pa_cons (pe_fld (pv 3) rfl) pa_nil)))) (pe_cd cW (hr.mono (by decide)) rfl pass0 (pa_cons (pv 0) (pa_cons (pe_fld (pv 3) rfl) (pa_cons (pv 1) pa_nil))))))))), ?_⟩)
  · obtain ⟨p, l, L, h, s, rfl, _⟩ := h
    rfl
  · obtain ⟨p, l, L, h, s, rfl, hL, wf, kR, kN⟩ := h
    refine ⟨_, rfl, _, _, rfl, rfl, _, _, rfl, fun hb => Ref.at_ (kR _ (raise_1 ?_)) (Same.refl H), fun hb => ?_⟩
    · have := of_decide_eq_true hb
      omega
    have c : ¬ 100 < h := by
      have := of_decide_eq_false hb
      omega
    refine ⟨_, rfl, _, rfl, p, l, L, s, rfl, hL, fun c2 => kR _ (raise_a c c2), fun c2 hs h0 H1 s1 => ?_⟩
    refine ⟨_, rfl, _, rfl, _, rfl, p, l, L, s, h, rfl, hL.same s1, wf, hs, h0, fun H2 q b s2 eb ⟨dq, hq⟩ => ?_⟩
    have s3 : Same H H2 := s1.trans s2
    refine ⟨_, rfl, q, a.CK, dq, _, _, rfl, hq, T.clK, T.nK1, kF_price b, _, rfl, q, a.CK, dq, _, _, rfl, hq, T.clK, T.nK2, kF_many b, _, rfl, q, a.CK, dq, _, _, rfl, hq, T.clK, T.nK3, kF_number b, (by show 3 ≤ sizeLine; decide), fun t ht => ?_⟩
    have s4 : Same H (upd H2 t (.lst [iv b.cost, iv b.many, iv b.set_])) := s3.trans (Same.new ht)
    refine ⟨_, rfl, _, rfl, q, a.CK, dq, _, _, rfl, (Same.new ht) _ _ hq, T.clK, T.nK3, kF_number b, _, rfl, p, l, L, b.set_, h, rfl, hL.same s4, wf, fun H3 u s5 hu0 hu => ?_⟩
    refine ⟨t, u, _, _, rfl, rfl, s5 _ _ upd_same, hu, ?_, fun z hz => ?_⟩
    · show 3 + ((L.between h b.set_).map iv).length ≤ sizeLine
      rw [List.length_map]
      have := between_len (h := h) (s := b.set_) wf
      exact Nat.le_of_lt (small (by omega))
    refine kN _ _ z (raise_0 c c2 eb) ((s4.trans s5).trans (Same.new hz)) ((s4.trans s5).free hz) (upd_same.trans ?_)
    show _ = some (HO.lst (V.int ((b.cost : Nat) : Int) :: (Si98.ints (b.many :: b.set_ :: L.between h b.set_)).map V.int))
    rw [ints_map]
    rfl
/-! ### for_money -/
theorem for_1 {L : Si98.Land} {m s : Nat} (c : 1000000 < m) : Si98.step L (.for_ m s) = (L, Si98.ok (-1)) := if_pos c
theorem for_a {L : Si98.Land} {m s : Nat} (c : ¬ 1000000 < m) (c2 : L.asked s < 0) : Si98.step L (.for_ m s) = (L, Si98.ok (L.asked s)) := (if_neg c).trans (if_pos c2)
theorem for_6 {L : Si98.Land} {m s : Nat} (c : ¬ 1000000 < m) (c2 : ¬ L.asked s < 0) (e : L.for_ m s = none) : Si98.step L (.for_ m s) = (L, Si98.ok (-6)) := by
  refine (if_neg c).trans ((if_neg c2).trans ?_)
  rw [e]
theorem for_0 {L : Si98.Land} {m s h : Nat} (c : ¬ 1000000 < m) (c2 : ¬ L.asked s < 0) (e : L.for_ m s = some h) : Si98.step L (.for_ m s) = (L, Si98.ok ((h : Nat) : Int)) := by
  refine (if_neg c).trans ((if_neg c2).trans ?_)
  rw [e]
def spFor (a : Ad) : Sp := fun vs H Q E => ∃ (p l : Addr) (L : Si98.Land) (m s : Nat), vs = [.ref p, iv m, iv s] ∧ LandAt a H p l L ∧ WF L ∧ Refs a H E L (.for_ m s) ∧ Reads H Q L (.for_ m s)
theorem scFm : FnScope ["land", "money", "kept", "height"] ["land", "money", "kept"] (defScope sForMoney) := ⟨rfl, rfl, rfl, by decide +kernel, rfl, by decide +kernel, by decide +kernel⟩
theorem ok_for {f : Addr} (F : FunAt K "for_money" "for_money" sForMoney f) (M : Nam K mg "for_money" f) (T : Txt K mg a) (cR : Cal P w K mg base (L2.CX P w) 3 "refuse_where" ["truth", "code"] (spRefuse a))
    (cA : Cal P w K mg base (L2.CX P w) 4 "ask_kept" ["land", "kept"] (spAsk a)) (cG : Cal P w K mg base CX0 5 "height_for" ["land", "money", "kept"] (spHeight a)) :
    Cal P w K mg base (L2.CX P w) 6 "for_money" ["land", "money", "kept"] (spFor a) := by
  obtain ⟨fd, F⟩ := F
  refine ⟨f, ⟨fd, ?_, F.binds fun _ _ _ _ _ _ us hl => match us, hl with | [_, _, _], _ => rfl⟩, M⟩
  refine F.okX scFm (fun vs H Q E h => ?_) (fun cdv A outer s H vs Q E hr h => ⟨_,
    pss_cons (ps_expr (pe_cd cR (hr.mono (by decide)) rfl passX (pa_cons (pe_cmpR op_gt (pv 1) (pe_num rfl T.cMONEY) (nomark _)) (pa_cons (pe_num rfl T.cNOTSO) pa_nil))))
    (pss_cons (ps_expr (pe_cd cA (hr.mono (by decide)) rfl passX (pa_cons (pv 0) (pa_cons (pv 2) pa_nil))))
    (pss_cons (ps_set (i := 3) scFm.nd rfl (Or.inl rfl) (pe_cd cG hr rfl pass0 (pa_cons (pv 0) (pa_cons (pv 1) (pa_cons (pv 2) pa_nil)))))
    (pss_cons (ps_expr (pe_cd cR (hr.mono (by decide)) rfl passX (pa_cons (pe_cmp (pc_isN (pv 3)) rfl) (pa_cons (pe_num rfl T.cALWAYS) pa_nil))))
    (pss_one (ps_ret (pe_lst (pa_cons (pv 3) pa_nil))))))), ?_⟩)
  · obtain ⟨p, l, L, m, s, rfl, _⟩ := h
    rfl
  · obtain ⟨p, l, L, m, s, rfl, hL, wf, kR, kN⟩ := h
    refine ⟨_, rfl, _, _, rfl, rfl, _, _, rfl, fun hb => Ref.at_ (kR _ (for_1 ?_)) (Same.refl H), fun hb => ?_⟩
    · have := of_decide_eq_true hb
      omega
    have c : ¬ 1000000 < m := by
      have := of_decide_eq_false hb
      omega
    refine ⟨_, rfl, _, rfl, p, l, L, s, rfl, hL, fun c2 => kR _ (for_a c c2), fun c2 hs h0 H1 s1 => ?_⟩
    refine ⟨_, rfl, _, rfl, _, rfl, p, l, L, m, s, rfl, hL.same s1, wf, hs, h0, fun H2 s2 => ?_⟩
    refine ⟨_, rfl, ?_⟩
    cases e : L.for_ m s with
    | none => exact ⟨_, _, rfl, fun _ => Ref.at_ (kR _ (for_6 c c2 e)) (s1.trans s2), fun hb => Bool.noConfusion hb⟩
    | some h =>
      refine ⟨_, _, rfl, fun hb => Bool.noConfusion hb, fun hb => ?_⟩
      refine ⟨_, rfl, (by show 1 ≤ sizeLine; decide), fun z hz => ?_⟩
      exact kN _ _ z (for_0 c c2 e) ((s1.trans s2).trans (Same.new hz)) ((s1.trans s2).free hz) upd_same
end
end Dk
namespace Dk
open PySem PySem.Spec PyProof.Rows L2
theorem ansOf_of {L L' : Si98.Land} {q : Si98.Call} {an : Si98.Ans} (e : Si98.step L q = (L', an)) : ansOf L q = an.v :: an.l := by
  unfold ansOf
  rw [e]
theorem fst_of {L L' : Si98.Land} {q : Si98.Call} {an : Si98.Ans} (e : Si98.step L q = (L', an)) : (Si98.step L q).1 = L' := by
  rw [e]
/-- a list beside a line may be changed -/
theorem LineAt.but {a : Ad} {H H' : Hp} {n p l f : Addr} {L : Si98.Land} {xs : List V} (h : LineAt a H n p l L) (hf : H f = some (.lst xs)) (hfl : f ≠ l) (k : ∀ b o, H b = some o → b ≠ f → H' b = some o) : LineAt a H' n p l L := by
  obtain ⟨⟨dn, h1⟩, ⟨dp, h2⟩, ps, h3, h4⟩ := h
  refine ⟨⟨dn, k _ _ h1 (ne_of h1 hf (fun z => by cases z))⟩, ⟨dp, k _ _ h2 (ne_of h2 hf (fun z => by cases z))⟩, ps, k _ _ h3 (Ne.symm hfl), h4.same fun q d ⟨dq, h5⟩ => ⟨dq, k _ _ h5 (ne_of h5 hf (fun z => by cases z))⟩⟩
section
variable {P : Program} {w : World} {K : PySem.W.Frag} {mg : Str → Option Value} {base : Heap} {a : Ad}
/-! ### told -/
/-- what a call leaves: its answer in a new list, the line with its land, all else as it was -/
def Leaves (a : Ad) (H : Hp) (Q : VK) (ln l : Addr) (L : Si98.Land) (q : Si98.Call) : Prop := ∀ (H' : Hp) (z lp' l' : Addr), H z = none → H' z = some (.lst ((ansOf L q).map V.int)) → LineAt a H' ln lp' l' (Si98.step L q).1 →
  (l' = l ∨ H l' = none) → (∀ b o, H b = some o → b ≠ ln → b ≠ l → H' b = some o) → Q (.ref z) H'
theorem Leaves.reads {a : Ad} {H : Hp} {Q : VK} {ln lp l : Addr} {L : Si98.Land} {q : Si98.Call} (k : Leaves a H Q ln l L q) (hN : LineAt a H ln lp l L) : Reads H Q L q := fun an H' z es s hz0 hz =>
  k H' z lp l hz0 (by rw [ansOf_of es]; exact hz) (by rw [fst_of es]; exact hN.same s) (.inl rfl) (fun b o e _ _ => s b o e)
def spTold (a : Ad) : Sp := fun vs H Q E => ∃ (ln lp l c dc sl : Addr) (L : Si98.Land) (k : Int) (xs : List Int) (e : Nat) (q : Si98.Call), vs = [.ref ln, .ref c] ∧ LineAt a H ln lp l L ∧ WF L ∧
  H c = some (.ins a.CC dc (cF k sl e)) ∧ H sl = some (.lst (xs.map V.int)) ∧ IsCall k xs q ∧ Refs a H E L q ∧ Leaves a H Q ln l L q
theorem scTo : FnScope ["line", "call", "land", "some"] ["line", "call"] (defScope sTold) := ⟨rfl, rfl, rfl, by decide +kernel, rfl, by decide +kernel, by decide +kernel⟩
theorem ok_told {f : Addr} (F : FunAt K "told" "told" sTold f) (M : Nam K mg "told" f) (T : Txt K mg a) (cB : Cal P w K mg base (L2.CX P w) 4 "begins" ["line", "many"] (spBegins a)) (cN : Cal P w K mg base (L2.CX P w) 4 "new_dike" ["land", "numbers"] (spNewDike K a))
    (cF' : Cal P w K mg base (L2.CX P w) 4 "floods" ["land", "height"] (spFloods a)) (cD : Cal P w K mg base (L2.CX P w) 4 "dry" ["land", "compartment"] (spDry a)) (cR : Cal P w K mg base (L2.CX P w) 5 "raise_to" ["land", "height", "kept"] (spRaise a))
    (cM : Cal P w K mg base (L2.CX P w) 6 "for_money" ["land", "money", "kept"] (spFor a)) : Cal P w K mg base (L2.CX P w) 7 "told" ["line", "call"] (spTold a) := by
  obtain ⟨fd, F⟩ := F
  refine ⟨f, ⟨fd, ?_, F.binds fun _ _ _ _ _ _ us hl => match us, hl with | [_, _], _ => rfl⟩, M⟩
  refine F.okX scTo (fun vs H Q E h => ?_) (fun cdv A outer s H vs Q E hr h => ⟨_,
    pss_cons (ps_set (i := 2) scTo.nd rfl (Or.inl rfl) (pe_fld (pv 0) rfl))
    (pss_cons (ps_set (i := 3) scTo.nd rfl (Or.inl rfl) (pe_fld (pv 1) rfl))
    (pss_cons (ps_if (pt_cmpR op_eq (pe_fld (pv 1) rfl) (pe_num rfl T.cBEGINS) (nomark _)) (pss_one (ps_ret (pe_cd cB (hr.mono (by decide)) rfl passX (pa_cons (pv 0) (pa_cons (pe_ix ix_list (pv 3) pe_int (fun _ _ => rfl)) pa_nil))))) pss_nil)
    (pss_cons (ps_if (pt_cmpR op_eq (pe_fld (pv 1) rfl) (pe_num rfl T.cDIKE) (nomark _)) (pss_one (ps_ret (pe_cd cN (hr.mono (by decide)) rfl passX (pa_cons (pv 2) (pa_cons (pv 3) pa_nil))))) pss_nil)
    (pss_cons (ps_if (pt_cmpR op_eq (pe_fld (pv 1) rfl) (pe_num rfl T.cFLOODS) (nomark _)) (pss_one (ps_ret (pe_cd cF' (hr.mono (by decide)) rfl passX (pa_cons (pv 2) (pa_cons (pe_ix ix_list (pv 3) pe_int (fun _ _ => rfl)) pa_nil))))) pss_nil)
    (pss_cons (ps_if (pt_cmpR op_eq (pe_fld (pv 1) rfl) (pe_num rfl T.cDRY) (nomark _)) (pss_one (ps_ret (pe_cd cD (hr.mono (by decide)) rfl passX (pa_cons (pv 2) (pa_cons (pe_ix ix_list (pv 3) pe_int (fun _ _ => rfl)) pa_nil))))) pss_nil)
    (pss_cons (ps_if (pt_cmpR op_eq (pe_fld (pv 1) rfl) (pe_num rfl T.cRAISE) (nomark _)) (pss_one (ps_ret (pe_cd cR (hr.mono (by decide)) rfl passX (pa_cons (pv 2) (pa_cons (pe_ix ix_list (pv 3) pe_int (fun _ _ => rfl)) (pa_cons (pe_ix ix_list (pv 3) pe_int (fun _ _ => rfl)) pa_nil)))))) pss_nil)
    (pss_one (ps_ret (pe_cd cM hr rfl passX (pa_cons (pv 2) (pa_cons (pe_ix ix_list (pv 3) pe_int (fun _ _ => rfl)) (pa_cons (pe_ix ix_list (pv 3) pe_int (fun _ _ => rfl)) pa_nil)))))))))))), ?_⟩)
  · obtain ⟨ln, lp, l, c, dc, sl, L, k, xs, e, q, rfl, _⟩ := h
    rfl
  · obtain ⟨ln, lp, l, c, dc, sl, L, k, xs, e, q, rfl, hN, wf, hc, hsl, hq, kR, kL⟩ := h
    obtain ⟨⟨dn, hn⟩, hL⟩ := id hN
    refine ⟨_, rfl, ln, a.CN, dn, _, _, rfl, hn, T.clN, T.nN1, nF_land _, ?_⟩
    refine ⟨_, rfl, c, a.CC, dc, _, _, rfl, hc, T.clC, T.nC2, cF_some _ _ _, ?_⟩
    refine ⟨_, rfl, c, a.CC, dc, _, _, rfl, hc, T.clC, T.nC1, cF_kind _ _ _, rfl, _, rfl, ?_⟩
    cases hq with
    | begins n =>
      refine if_true_of (by decide) ?_
      refine ⟨_, rfl, _, rfl, sl, _, _, _, rfl, rfl, SqL.of hsl, atI_nat (j := 0) rfl, ?_⟩
      refine ⟨ln, lp, l, L, n, rfl, hN, kR, fun es H' z lp' l' hz0 hz LN hl0 kp => ?_⟩
      refine kL H' z lp' l' hz0 (by rw [ansOf_of es]; exact hz) (by rw [fst_of es]; exact LN) (.inr hl0) (fun b o eb hb _ => kp b o eb hb)
    | dike x y h t =>
      refine if_false_of (by decide) ?_
      refine ⟨_, rfl, c, a.CC, dc, _, _, rfl, hc, T.clC, T.nC1, cF_kind _ _ _, rfl, _, rfl, ?_⟩
      refine if_true_of (by decide) ?_
      refine ⟨_, rfl, _, rfl, lp, l, sl, L, ⟨x, y, h, t⟩, rfl, hL, wf, SqL.of hsl, kR, fun es H' z hz0 hz LA kp => ?_⟩
      refine kL H' z lp l hz0 (by rw [ansOf_of es]; exact hz) (by rw [fst_of es]; exact ⟨⟨dn, kp _ _ hn (ne_of hn hL.2.choose_spec.1 (fun z => by cases z))⟩, LA⟩) (.inl rfl) (fun b o eb _ hb => kp b o eb hb)
    | floods h =>
      refine if_false_of (by decide) ?_
      refine ⟨_, rfl, c, a.CC, dc, _, _, rfl, hc, T.clC, T.nC1, cF_kind _ _ _, rfl, _, rfl, ?_⟩
      refine if_false_of (by decide) ?_
      refine ⟨_, rfl, c, a.CC, dc, _, _, rfl, hc, T.clC, T.nC1, cF_kind _ _ _, rfl, _, rfl, ?_⟩
      refine if_true_of (by decide) ?_
      exact ⟨_, rfl, _, rfl, sl, _, _, _, rfl, rfl, SqL.of hsl, atI_nat (j := 0) rfl, lp, l, L, h, rfl, hL, wf, kR, kL.reads hN⟩
    | dry v =>
      refine if_false_of (by decide) ?_
      refine ⟨_, rfl, c, a.CC, dc, _, _, rfl, hc, T.clC, T.nC1, cF_kind _ _ _, rfl, _, rfl, ?_⟩
      refine if_false_of (by decide) ?_
      refine ⟨_, rfl, c, a.CC, dc, _, _, rfl, hc, T.clC, T.nC1, cF_kind _ _ _, rfl, _, rfl, ?_⟩
      refine if_false_of (by decide) ?_
      refine ⟨_, rfl, c, a.CC, dc, _, _, rfl, hc, T.clC, T.nC1, cF_kind _ _ _, rfl, _, rfl, ?_⟩
      refine if_true_of (by decide) ?_
      exact ⟨_, rfl, _, rfl, sl, _, _, _, rfl, rfl, SqL.of hsl, atI_nat (j := 0) rfl, lp, l, L, v, rfl, hL, wf, kR, kL.reads hN⟩
    | raise h s =>
      refine if_false_of (by decide) ?_
      refine ⟨_, rfl, c, a.CC, dc, _, _, rfl, hc, T.clC, T.nC1, cF_kind _ _ _, rfl, _, rfl, ?_⟩
      refine if_false_of (by decide) ?_
      refine ⟨_, rfl, c, a.CC, dc, _, _, rfl, hc, T.clC, T.nC1, cF_kind _ _ _, rfl, _, rfl, ?_⟩
      refine if_false_of (by decide) ?_
      refine ⟨_, rfl, c, a.CC, dc, _, _, rfl, hc, T.clC, T.nC1, cF_kind _ _ _, rfl, _, rfl, ?_⟩
      refine if_false_of (by decide) ?_
      refine ⟨_, rfl, c, a.CC, dc, _, _, rfl, hc, T.clC, T.nC1, cF_kind _ _ _, rfl, _, rfl, ?_⟩
      refine if_true_of (by decide) ?_
      exact ⟨_, rfl, _, rfl, sl, _, _, _, rfl, rfl, SqL.of hsl, atI_nat (j := 0) rfl, _, rfl, sl, _, _, _, rfl, rfl, SqL.of hsl, atI_nat (j := 1) rfl, lp, l, L, h, s, rfl, hL, wf, kR, kL.reads hN⟩
    | for_ m s =>
      refine if_false_of (by decide) ?_
      refine ⟨_, rfl, c, a.CC, dc, _, _, rfl, hc, T.clC, T.nC1, cF_kind _ _ _, rfl, _, rfl, ?_⟩
      refine if_false_of (by decide) ?_
      refine ⟨_, rfl, c, a.CC, dc, _, _, rfl, hc, T.clC, T.nC1, cF_kind _ _ _, rfl, _, rfl, ?_⟩
      refine if_false_of (by decide) ?_
      refine ⟨_, rfl, c, a.CC, dc, _, _, rfl, hc, T.clC, T.nC1, cF_kind _ _ _, rfl, _, rfl, ?_⟩
      refine if_false_of (by decide) ?_
      refine ⟨_, rfl, c, a.CC, dc, _, _, rfl, hc, T.clC, T.nC1, cF_kind _ _ _, rfl, _, rfl, ?_⟩
      refine if_false_of (by decide) ?_
      exact ⟨_, rfl, _, rfl, sl, _, _, _, rfl, rfl, SqL.of hsl, atI_nat (j := 0) rfl, _, rfl, sl, _, _, _, rfl, rfl, SqL.of hsl, atI_nat (j := 1) rfl, lp, l, L, m, s, rfl, hL, wf, kR, kL.reads hN⟩
/-! ### told_or_refused -/
def spToldOr (a : Ad) : Sp := fun vs H Q _ => ∃ (ln lp l c dc sl : Addr) (L : Si98.Land) (k : Int) (xs : List Int) (e : Nat) (q : Si98.Call), vs = [.ref ln, .ref c] ∧ LineAt a H ln lp l L ∧ WF L ∧
  H c = some (.ins a.CC dc (cF k sl e)) ∧ H sl = some (.lst (xs.map V.int)) ∧ IsCall k xs q ∧ Leaves a H Q ln l L q
theorem scTr : FnScope ["line", "call", "refusal"] ["line", "call"] (defScope sToldOr) := ⟨rfl, rfl, rfl, by decide +kernel, rfl, by decide +kernel, by decide +kernel⟩
theorem ok_toldor {f : Addr} (F : FunAt K "told_or_refused" "told_or_refused" sToldOr f) (M : Nam K mg "told_or_refused" f) (T : Txt K mg a) (cT : Cal P w K mg base (L2.CX P w) 7 "told" ["line", "call"] (spTold a)) : Cal P w K mg base CX0 8 "told_or_refused" ["line", "call"] (spToldOr a) := by
  obtain ⟨fd, F⟩ := F
  refine ⟨f, ⟨fd, ?_, F.binds fun _ _ _ _ _ _ us hl => match us, hl with | [_, _], _ => rfl⟩, M⟩
  refine F.ok scTr (fun vs H Q E h => ?_) (fun cdv A outer s H vs Q E hr h => ⟨_,
    pss_one (ps_try_as (i := 2) (tb := fun W => tRet (tCallS (spTold a) (WE W) (tCons (tVar 0) (tCons (tVar 1) tNil)))) (ts := fun a0 cls d => tRet (tLst (tCons (tByRf a.CR a0 cls d (tVar 2)) tNil))) (Wout := fun _ _ _ _ => False) rfl rfl scTr.nd rfl rfl ⟨rfl, by decide, Or.inl T.rf.gC⟩ takes0
      (fun W pn xe tk _ => pss_one (ps_ret (by exact (pe_cdS cT hr rfl (fun σ => passAt tk σ) (by exact (pa_cons (pv 0) (pa_cons (pv 1) pa_nil)))))))
      (fun a0 oe cls d pn hz hf => pss_one (ps_ret (by exact (pe_lst (pa_cons (pe_byRf T.rf hz hf (pv 2)) pa_nil)))))), ?_⟩)
  · obtain ⟨ln, lp, l, c, dc, sl, L, k, xs, e, q, rfl, _⟩ := h
    rfl
  · obtain ⟨ln, lp, l, c, dc, sl, L, k, xs, e, q, rfl, hN, wf, hc, hsl, hq, kL⟩ := h
    refine ⟨_, rfl, _, rfl, ln, lp, l, c, dc, sl, L, k, xs, e, q, rfl, hN, wf, hc, hsl, hq, fun v es H' d s hd => ?_, kL⟩
    refine ⟨true, T.rf.te, fun _ a0 _ => ?_, fun z => Bool.noConfusion z⟩
    refine ⟨_, rfl, rfl, rfl, d, _, rfl, hd, (by show 1 ≤ sizeLine; decide), fun z hz => ?_⟩
    have sz := s.trans (Same.new (o := .lst [.int v]) hz)
    exact kL _ z lp l (s.free hz) (by rw [ansOf_of es]; exact upd_same) (by rw [fst_of es]; exact hN.same sz) (.inl rfl) (fun b o eb _ _ => sz b o eb)
/-! ### answers -/
def spAns (K : PySem.W.Frag) : Sp := fun vs H Q _ => ∃ (al : Addr) (ns : List Int), vs = [.ref al] ∧ SqL K H al (ns.map V.int) ∧ PySi98.answers_asked ns = true ∧ (∀ x, x ∈ ns → 0 ≤ x) ∧
  ∀ (H' : Hp) (p : Addr), H' p = some (.lst ((PySi98.answers ns).map V.int)) → Q (.ref p) H'
theorem scAn : FnScope ["calls", "found", "line", "at", "call", "answer"] ["calls"] (defScope sAnswers) := ⟨rfl, rfl, rfl, by decide +kernel, rfl, by decide +kernel, by decide +kernel⟩
theorem ok_answers {f : Addr} {fd : FuncData} (F : Fun K "answers" "answers" sAnswers f fd) (T : Txt K mg a) (cN : CalI P w K mg base CX0 3 a.CN ["self"] (spLineI a)) (cA : Cal P w K mg base CX0 3 "call_at" ["calls", "at"] (spCallAt K a))
    (cT : Cal P w K mg base CX0 8 "told_or_refused" ["line", "call"] (spToldOr a)) : FnOk P w K mg base CX0 9 f fd ["calls"] (spAns K) := by
  refine F.ok scAn (fun vs H Q E h => ?_) (fun cdv A outer s H vs Q E hr h => ⟨_,
    pss_cons (ps_set (i := 1) scAn.nd rfl (Or.inl rfl) (pe_lst pa_nil))
    (pss_cons (ps_set (i := 2) scAn.nd rfl (Or.inl rfl) (pe_mkd0 cN (hr.mono (by decide)) rfl T.gN pass0))
    (pss_cons (ps_set (i := 3) scAn.nd rfl (Or.inl rfl) pe_int)
    (pss_cons (ps_while PassesOwn.never (pt_cmpR op_lt (pv 3) (pe_callB call_len_seq (by rfl) T.bLen PySem.boot_len (pa_cons (pv 0) pa_nil)) (nomark _))
      (pss_cons (ps_set (i := 4) scAn.nd rfl (Or.inl rfl) (pe_cd cA (hr.mono (by decide)) rfl pass0 (pa_cons (pv 0) (pa_cons (pv 3) pa_nil))))
      (pss_cons (ps_set (i := 5) scAn.nd rfl (Or.inl rfl) (pe_cd cT hr rfl pass0 (pa_cons (pv 2) (pa_cons (pv 4) pa_nil))))
      (pss_cons (ps_expr (pe_bm PySem.F.plainAttrs_list PySem.F.slot_list_append PySem.F.type_list_append mt_append (pv 1) (pa_cons (pe_callB call_len_seq (by rfl) T.bLen PySem.boot_len (pa_cons (pv 5) pa_nil)) pa_nil)))
      (pss_cons (ps_expr (pe_bm PySem.F.plainAttrs_list PySem.F.slot_list_extend PySem.F.type_list_extend mt_extend (pv 1) (pa_cons (pv 5) pa_nil)))
      (pss_one (ps_set (i := 3) scAn.nd rfl (Or.inl rfl) (pe_fld (pv 4) rfl))))))))
    (pss_one (ps_ret (pv 1)))))), ?_⟩)
  · obtain ⟨al, ns, rfl, _⟩ := h
    rfl
  · obtain ⟨al, ns, rfl, hS, hask, hpos, kQ⟩ := h
    obtain ⟨G0, hbig⟩ := going_start hask
    -- found = []; line = Line(); at = 0
    refine ⟨(by show 0 ≤ sizeLine; decide), fun fo hfo => ?_⟩
    refine fun ln dn nl nd ne => ?_
    have s0 : Same H (upd H fo (.lst [])) := Same.new hfo
    refine ⟨ln, dn, rfl, upd_same, fun H1 lp l hlp hl LN kp => ⟨rfl, ?_⟩⟩
    have hll : (upd H fo (.lst [])) l = none := free_upd (free_upd hl)
    have s1 : Same (upd H fo (.lst [])) H1 := Same.made nl nd kp
    refine ⟨fun m σ H' => ∃ (i : Nat) (L : Si98.Land) (out : List Int) (lp l : Addr) (y4 y5 : Option V), σ = [some (.ref al), some (.ref fo), some (.ref ln), some (iv i), y4, y5] ∧ m = ns.length - i ∧ Same H H' ∧ H' fo = some (.lst (out.map V.int)) ∧
        LineAt a H' ln lp l L ∧ H l = none ∧ fo ≠ l ∧ Going ns i L out,
      ⟨ns.length, 0, Si98.init, [], lp, l, none, none, rfl, rfl, s0.trans s1, s1 _ _ upd_same, LN, free_upd hll, ne_of_none (H := upd H fo (.lst [])) upd_same hll, G0⟩, ?_⟩
    rintro m σ H2 ⟨i, L, out, lp, l, y4, y5, rfl, rfl, s2, hf2, LN2, hl0, hfl, G⟩
    refine ⟨_, rfl, _, rfl, al, _, rfl, .inl (s2.seq hS), _, _, rfl, rfl, _, rfl, ?_⟩
    rw [List.length_map]
    by_cases c : i < ns.length
    · refine if_true_of (decide_eq_true (by omega)) ?_
      obtain ⟨p, n, q, hp, hp0, hn, hle, hq, G'⟩ := going_turn hpos G c
      refine ⟨fun σ' H' => ∃ (L : Si98.Land) (out : List Int) (lp l : Addr) (y4 y5 : Option V), σ' = [some (.ref al), some (.ref fo), some (.ref ln), some (iv (i + 1 + n)), y4, y5] ∧ Same H H' ∧ H' fo = some (.lst (out.map V.int)) ∧
        LineAt a H' ln lp l L ∧ H l = none ∧ fo ≠ l ∧ Going ns (i + 1 + n) L out, ?_, ?_⟩
      · rintro σ' H' ⟨L', out', lp', l', z4, z5, rfl, r1, r2, r3, r4, r5, r6⟩
        exact ⟨ns.length - (i + 1 + n), by omega, i + 1 + n, L', out', lp', l', z4, z5, rfl, rfl, r1, r2, r3, r4, r5, r6⟩
      · -- call = call_at(calls, at)
        refine ⟨_, rfl, _, rfl, al, ns, i, p, n, rfl, s2.seq hS, hp, hp0, hn, hle, fun H3 cc sl s3 ⟨dc, hc⟩ hsl => ?_⟩
        -- answer = told_or_refused(line, call)
        refine ⟨_, rfl, _, rfl, ln, lp, l, cc, dc, sl, L, p, _, _, q, rfl, LN2.same s3, G.w, hc, hsl, hq, fun H4 z lp' l' hz0 hz LN4 hl4 k4 => ?_⟩
        have hf3 := s3 _ _ hf2
        obtain ⟨⟨dn', hln3⟩, _, _, hl3, _⟩ := LN2.same s3
        have hfln : fo ≠ ln := ne_of hf3 hln3 (fun z => by cases z)
        have hf4 := k4 _ _ hf3 hfln hfl
        have hzf : z ≠ fo := Ne.symm (ne_of_none hf3 hz0)
        have hcln : cc ≠ ln := ne_of hc hln3 (fun z => by
          injection z with _ _ z3
          exact absurd (congrArg List.length z3) (by show ¬ (3 = 1); decide))
        have hc4 := k4 _ _ hc hcln (ne_of hc hl3 (fun z => by cases z))
        have hcf : cc ≠ fo := ne_of hc4 hf4 (fun z => by cases z)
        have s4 : Same H H4 := fun b o eb => k4 b o (s3 b o (s2 b o eb)) (fun zz => by
            subst zz
            have := s0 _ _ eb
            rw [nl] at this
            cases this) (ne_of_none eb hl0)
        have hfl' : fo ≠ l' := by
          rcases hl4 with rfl | h4
          · exact hfl
          · exact ne_of_none hf3 h4
        have hl0' : H l' = none := by
          rcases hl4 with rfl | h4
          · exact hl0
          · exact s2.free (s3.free h4)
        have hlenG := Nat.le_trans (going_len G') hbig
        have hlenO : out.length + ((ansOf L q).length + 1) ≤ 10000000 := by
          rw [List.length_append, List.length_cons] at hlenG
          exact hlenG
        -- found.append(len(answer))
        refine ⟨_, rfl, .inl ⟨rfl, _, SqL.of hf4⟩, _, rfl, z, _, rfl, .inl (SqL.of hz), fo, _, _, rfl, rfl, hf4, ?_, ?_⟩
        · rw [List.length_map]
          exact small (by omega)
        -- found.extend(answer)
        refine ⟨_, rfl, .inl ⟨rfl, _, SqL.of upd_same⟩, _, rfl, fo, z, _, _, rfl, rfl, upd_same, (upd_ne hzf).trans hz, ?_, ?_⟩
        · rw [List.length_append, List.length_map, List.length_map]
          show out.length + 1 + _ ≤ _
          exact Nat.le_of_lt (small (by omega))
        -- at = call.behind
        rw [upd_upd]
        refine ⟨_, rfl, cc, a.CC, dc, _, _, rfl, (upd_ne hcf).trans hc4, T.clC, T.nC3, cF_behind _ _ _, ?_⟩
        refine ⟨_, _, lp', l', _, _, rfl, Same.over s4 hfo, ?_, LN4.but hf4 hfl' (fun b o eb hb => (upd_ne hb).trans eb), hl0', hfl', G'⟩
        rw [upd_same]
        simp
    · refine if_false_of (decide_eq_false (by omega)) ?_
      rw [going_end G c] at hf2
      exact ⟨_, rfl, kQ H2 fo hf2⟩
end
end Dk
namespace Dk
open PySem PySem.Spec PyProof.Rows L2
open PySem.W (Codec)
/-! ### the end: what the top has written, every address a letter -/
/-- an error of the class at S is what its except clause names -/
theorem exm_self {K : PySem.W.Frag} {S : Addr} (h1 : PySem.W.subIn K (.ref S) (.type "BaseException") = some true) (h2 : PySem.W.isClsIn K S = true) (h3 : PySem.W.typeIn K (.ref S) = some (.type "type")) (h4 : PySem.W.subIn K (.ref S) (.ref S) = some true) :
    PySem.W.exmOne K (.ref S) (.ref S) = some true := by
  have e1 : (PySem.W.subIn K (.ref S) (.type "BaseException") == some true) = true := by rw [h1] <;> rfl
  have e2 : ((PySem.W.clsIn K S).isSome && PySem.W.typeIn K (.ref S) == some (.type "type")) = true := by
    have h2' : (PySem.W.clsIn K S).isSome = true := h2
    rw [h2', h3] <;> rfl
  show (if (PySem.W.subIn K (.ref S) (.type "BaseException") == some true) = true then (if ((PySem.W.clsIn K S).isSome && PySem.W.typeIn K (.ref S) == some (.type "type")) = true then PySem.W.subIn K (.ref S) (.ref S) else none) else none) = some true
  rw [if_pos e1, if_pos e2]
  exact h4
theorem all_mk {P : Program} {w : World} {K : PySem.W.Frag} {h : Heap} {mg : Str → Option Value} {fa CD iCD CL iCL m_flooded m_dry_up_to CK iCK CC iCC CN iCN CR iR f_has f_lower_dikes f_price_of f_least_price f_height_for f_call_at f_refuse_where f_begins f_new_dike f_floods f_dry f_ask_kept f_raise_to f_for_money f_told f_told_or_refused f_answers nums : Addr} (X : K.In h) (G : h.Ns mainGlobals mg) (hfa : mg "answers" = some (.ref fa))
    {odiCD aniCD : Option Addr} {sliCD : Array (Option Value)} {ociCD kViCD dciCD pmiCD cdiCD ctiCD : Value}
    {odiCL aniCL : Option Addr} {sliCL : Array (Option Value)} {ociCL kViCL dciCL pmiCL cdiCL ctiCL : Value}
    {odm_flooded anm_flooded : Option Addr} {slm_flooded : Array (Option Value)} {ocm_flooded kVm_flooded dcm_flooded pmm_flooded cdm_flooded ctm_flooded : Value}
    {odm_dry_up_to anm_dry_up_to : Option Addr} {slm_dry_up_to : Array (Option Value)} {ocm_dry_up_to kVm_dry_up_to dcm_dry_up_to pmm_dry_up_to cdm_dry_up_to ctm_dry_up_to : Value}
    {odiCK aniCK : Option Addr} {sliCK : Array (Option Value)} {ociCK kViCK dciCK pmiCK cdiCK ctiCK : Value}
    {odiCC aniCC : Option Addr} {sliCC : Array (Option Value)} {ociCC kViCC dciCC pmiCC cdiCC ctiCC : Value}
    {odiCN aniCN : Option Addr} {sliCN : Array (Option Value)} {ociCN kViCN dciCN pmiCN cdiCN ctiCN : Value}
    {nmR qR : Str} {NR : Addr} {bsR : List Value} {snR : List Str} {subR : List Value} {abR : Bool} {colR : Option Bool} {ddR : Option Addr} {m0 m1 m2 m3 m5 : Option Value}
    {odR anR : Option Addr} {slR : Array (Option Value)} {ocR dcR pmR cdR ctR : Value}
    {od_has an_has : Option Addr} {sl_has : Array (Option Value)} {oc_has kV_has dc_has pm_has cd_has ct_has : Value}
    {od_lower_dikes an_lower_dikes : Option Addr} {sl_lower_dikes : Array (Option Value)} {oc_lower_dikes kV_lower_dikes dc_lower_dikes pm_lower_dikes cd_lower_dikes ct_lower_dikes : Value}
    {od_price_of an_price_of : Option Addr} {sl_price_of : Array (Option Value)} {oc_price_of kV_price_of dc_price_of pm_price_of cd_price_of ct_price_of : Value}
    {od_least_price an_least_price : Option Addr} {sl_least_price : Array (Option Value)} {oc_least_price kV_least_price dc_least_price pm_least_price cd_least_price ct_least_price : Value}
    {od_height_for an_height_for : Option Addr} {sl_height_for : Array (Option Value)} {oc_height_for kV_height_for dc_height_for pm_height_for cd_height_for ct_height_for : Value}
    {od_call_at an_call_at : Option Addr} {sl_call_at : Array (Option Value)} {oc_call_at kV_call_at dc_call_at pm_call_at cd_call_at ct_call_at : Value}
    {od_refuse_where an_refuse_where : Option Addr} {sl_refuse_where : Array (Option Value)} {oc_refuse_where kV_refuse_where dc_refuse_where pm_refuse_where cd_refuse_where ct_refuse_where : Value}
    {od_begins an_begins : Option Addr} {sl_begins : Array (Option Value)} {oc_begins kV_begins dc_begins pm_begins cd_begins ct_begins : Value}
    {od_new_dike an_new_dike : Option Addr} {sl_new_dike : Array (Option Value)} {oc_new_dike kV_new_dike dc_new_dike pm_new_dike cd_new_dike ct_new_dike : Value}
    {od_floods an_floods : Option Addr} {sl_floods : Array (Option Value)} {oc_floods kV_floods dc_floods pm_floods cd_floods ct_floods : Value}
    {od_dry an_dry : Option Addr} {sl_dry : Array (Option Value)} {oc_dry kV_dry dc_dry pm_dry cd_dry ct_dry : Value}
    {od_ask_kept an_ask_kept : Option Addr} {sl_ask_kept : Array (Option Value)} {oc_ask_kept kV_ask_kept dc_ask_kept pm_ask_kept cd_ask_kept ct_ask_kept : Value}
    {od_raise_to an_raise_to : Option Addr} {sl_raise_to : Array (Option Value)} {oc_raise_to kV_raise_to dc_raise_to pm_raise_to cd_raise_to ct_raise_to : Value}
    {od_for_money an_for_money : Option Addr} {sl_for_money : Array (Option Value)} {oc_for_money kV_for_money dc_for_money pm_for_money cd_for_money ct_for_money : Value}
    {od_told an_told : Option Addr} {sl_told : Array (Option Value)} {oc_told kV_told dc_told pm_told cd_told ct_told : Value}
    {od_told_or_refused an_told_or_refused : Option Addr} {sl_told_or_refused : Array (Option Value)} {oc_told_or_refused kV_told_or_refused dc_told_or_refused pm_told_or_refused cd_told_or_refused ct_told_or_refused : Value}
    {od_answers an_answers : Option Addr} {sl_answers : Array (Option Value)} {oc_answers kV_answers dc_answers pm_answers cd_answers ct_answers : Value}
    {tk0 : Tok}
    {tk1 : Tok}
    {tk2 : Tok}
    {tk3 : Tok}
    {tk4 : Tok}
    {tk5 : Tok}
    {tk6 : Tok}
    {tk7 : Tok}
    {tk8 : Tok}
    {tk9 : Tok}
    {tk10 : Tok}
    {tk11 : Tok}
    {tk12 : Tok}
    {tk13 : Tok}
    {tk14 : Tok}
    {tk15 : Tok}
    {odN : Option Addr} {slN : Array (Option Value)} {nN : Nat} {u1 u2 u3 u4 u5 u6 : Tok}
    (aCD : PySem.W.nsIn K mainGlobals "Dike" = some (some (.ref CD)))
    (pgCD : PySem.W.plainGet K CD Str.empty = true)
    (hdCD : PySem.W.hasDictIn K CD = true)
    (poCD : PySem.W.plainOver K CD = true)
    (saCD : PySem.W.findIn K (.ref CD) "__setattr__" = some (some (.builtin "object.__setattr__")))
    (mkCD : PySem.W.makesIn K CD = true)
    (kcCD : PySem.W.keepIn K (.ref CD) = true)
    (nCD1 : PySem.W.findIn K (.ref CD) "one" = some none)
    (nCD2 : PySem.W.findIn K (.ref CD) "other" = some none)
    (nCD3 : PySem.W.findIn K (.ref CD) "height" = some none)
    (nCD4 : PySem.W.findIn K (.ref CD) "cost" = some none)
    (aiCD : PySem.W.findIn K (.ref CD) "__init__" = some (some (.ref iCD)))
    (fiCD : PySem.W.isFn K (.ref iCD) = true)
    (liCD : K.lookup iCD = some ⟨ociCD, odiCD, .func (PySem.W.fnOf "__init__" "Dike.__init__" (defArgs sDikeI) (defBody sDikeI) (defScope sDikeI) .none kViCD dciCD pmiCD aniCD cdiCD ctiCD), sliCD⟩)
    (ciCD : PySem.W.codeIn K cdiCD "Dike.__init__" = true)
    (kiCD : PySem.W.keepIn K (.ref iCD) = true)
    (aCL : PySem.W.nsIn K mainGlobals "Land" = some (some (.ref CL)))
    (pgCL : PySem.W.plainGet K CL Str.empty = true)
    (hdCL : PySem.W.hasDictIn K CL = true)
    (poCL : PySem.W.plainOver K CL = true)
    (saCL : PySem.W.findIn K (.ref CL) "__setattr__" = some (some (.builtin "object.__setattr__")))
    (mkCL : PySem.W.makesIn K CL = true)
    (kcCL : PySem.W.keepIn K (.ref CL) = true)
    (nCL1 : PySem.W.findIn K (.ref CL) "many" = some none)
    (nCL2 : PySem.W.findIn K (.ref CL) "dikes" = some none)
    (aiCL : PySem.W.findIn K (.ref CL) "__init__" = some (some (.ref iCL)))
    (fiCL : PySem.W.isFn K (.ref iCL) = true)
    (liCL : K.lookup iCL = some ⟨ociCL, odiCL, .func (PySem.W.fnOf "__init__" "Land.__init__" (defArgs sLandI) (defBody sLandI) (defScope sLandI) .none kViCL dciCL pmiCL aniCL cdiCL ctiCL), sliCL⟩)
    (ciCL : PySem.W.codeIn K cdiCL "Land.__init__" = true)
    (kiCL : PySem.W.keepIn K (.ref iCL) = true)
    (am_flooded : PySem.W.findIn K (.ref CL) "flooded" = some (some (.ref m_flooded)))
    (fm_flooded : PySem.W.isFn K (.ref m_flooded) = true)
    (lm_flooded : K.lookup m_flooded = some ⟨ocm_flooded, odm_flooded, .func (PySem.W.fnOf "flooded" "Land.flooded" (defArgs sFlooded) (defBody sFlooded) (defScope sFlooded) .none kVm_flooded dcm_flooded pmm_flooded anm_flooded cdm_flooded ctm_flooded), slm_flooded⟩)
    (cm_flooded : PySem.W.codeIn K cdm_flooded "Land.flooded" = true)
    (km_flooded : PySem.W.keepIn K (.ref m_flooded) = true)
    (am_dry_up_to : PySem.W.findIn K (.ref CL) "dry_up_to" = some (some (.ref m_dry_up_to)))
    (fm_dry_up_to : PySem.W.isFn K (.ref m_dry_up_to) = true)
    (lm_dry_up_to : K.lookup m_dry_up_to = some ⟨ocm_dry_up_to, odm_dry_up_to, .func (PySem.W.fnOf "dry_up_to" "Land.dry_up_to" (defArgs sDryUp) (defBody sDryUp) (defScope sDryUp) .none kVm_dry_up_to dcm_dry_up_to pmm_dry_up_to anm_dry_up_to cdm_dry_up_to ctm_dry_up_to), slm_dry_up_to⟩)
    (cm_dry_up_to : PySem.W.codeIn K cdm_dry_up_to "Land.dry_up_to" = true)
    (km_dry_up_to : PySem.W.keepIn K (.ref m_dry_up_to) = true)
    (aCK : PySem.W.nsIn K mainGlobals "Kept" = some (some (.ref CK)))
    (pgCK : PySem.W.plainGet K CK Str.empty = true)
    (hdCK : PySem.W.hasDictIn K CK = true)
    (poCK : PySem.W.plainOver K CK = true)
    (saCK : PySem.W.findIn K (.ref CK) "__setattr__" = some (some (.builtin "object.__setattr__")))
    (mkCK : PySem.W.makesIn K CK = true)
    (kcCK : PySem.W.keepIn K (.ref CK) = true)
    (nCK1 : PySem.W.findIn K (.ref CK) "price" = some none)
    (nCK2 : PySem.W.findIn K (.ref CK) "many" = some none)
    (nCK3 : PySem.W.findIn K (.ref CK) "number" = some none)
    (aiCK : PySem.W.findIn K (.ref CK) "__init__" = some (some (.ref iCK)))
    (fiCK : PySem.W.isFn K (.ref iCK) = true)
    (liCK : K.lookup iCK = some ⟨ociCK, odiCK, .func (PySem.W.fnOf "__init__" "Kept.__init__" (defArgs sKeptI) (defBody sKeptI) (defScope sKeptI) .none kViCK dciCK pmiCK aniCK cdiCK ctiCK), sliCK⟩)
    (ciCK : PySem.W.codeIn K cdiCK "Kept.__init__" = true)
    (kiCK : PySem.W.keepIn K (.ref iCK) = true)
    (aCC : PySem.W.nsIn K mainGlobals "Call" = some (some (.ref CC)))
    (pgCC : PySem.W.plainGet K CC Str.empty = true)
    (hdCC : PySem.W.hasDictIn K CC = true)
    (poCC : PySem.W.plainOver K CC = true)
    (saCC : PySem.W.findIn K (.ref CC) "__setattr__" = some (some (.builtin "object.__setattr__")))
    (mkCC : PySem.W.makesIn K CC = true)
    (kcCC : PySem.W.keepIn K (.ref CC) = true)
    (nCC1 : PySem.W.findIn K (.ref CC) "kind" = some none)
    (nCC2 : PySem.W.findIn K (.ref CC) "some" = some none)
    (nCC3 : PySem.W.findIn K (.ref CC) "behind" = some none)
    (aiCC : PySem.W.findIn K (.ref CC) "__init__" = some (some (.ref iCC)))
    (fiCC : PySem.W.isFn K (.ref iCC) = true)
    (liCC : K.lookup iCC = some ⟨ociCC, odiCC, .func (PySem.W.fnOf "__init__" "Call.__init__" (defArgs sCallI) (defBody sCallI) (defScope sCallI) .none kViCC dciCC pmiCC aniCC cdiCC ctiCC), sliCC⟩)
    (ciCC : PySem.W.codeIn K cdiCC "Call.__init__" = true)
    (kiCC : PySem.W.keepIn K (.ref iCC) = true)
    (aCN : PySem.W.nsIn K mainGlobals "Line" = some (some (.ref CN)))
    (pgCN : PySem.W.plainGet K CN Str.empty = true)
    (hdCN : PySem.W.hasDictIn K CN = true)
    (poCN : PySem.W.plainOver K CN = true)
    (saCN : PySem.W.findIn K (.ref CN) "__setattr__" = some (some (.builtin "object.__setattr__")))
    (mkCN : PySem.W.makesIn K CN = true)
    (kcCN : PySem.W.keepIn K (.ref CN) = true)
    (nCN1 : PySem.W.findIn K (.ref CN) "land" = some none)
    (aiCN : PySem.W.findIn K (.ref CN) "__init__" = some (some (.ref iCN)))
    (fiCN : PySem.W.isFn K (.ref iCN) = true)
    (liCN : K.lookup iCN = some ⟨ociCN, odiCN, .func (PySem.W.fnOf "__init__" "Line.__init__" (defArgs sLineI) (defBody sLineI) (defScope sLineI) .none kViCN dciCN pmiCN aniCN cdiCN ctiCN), sliCN⟩)
    (ciCN : PySem.W.codeIn K cdiCN "Line.__init__" = true)
    (kiCN : PySem.W.keepIn K (.ref iCN) = true)
    (aCR : PySem.W.nsIn K mainGlobals "Refused" = some (some (.ref CR)))
    (xR : K.lookup CR = some (excClassObj nmR qR CR NR bsR [.type "ValueError", .type "Exception", .type "BaseException", .type "object"] true snR subR abR colR ddR m0 m1 m2 m3 m5 "ValueError.__new__"))
    (saR : PySem.W.findIn K (.ref CR) "__setattr__" = some (some (.builtin "object.__setattr__")))
    (gaR : PySem.W.findIn K (.ref CR) "__getattribute__" = some (some (.builtin "BaseException.__getattribute__")))
    (ggR : PySem.W.findIn K (.ref CR) "__getattr__" = some none)
    (nbR : PySem.W.findIn K (.ref CR) "code" = some none)
    (aiR : PySem.W.findIn K (.ref CR) "__init__" = some (some (.ref iR)))
    (tiR : PySem.W.typeIn K (.ref iR) = some (.type "function"))
    (liR : K.lookup iR = some ⟨ocR, odR, .func (PySem.W.fnOf "__init__" "Refused.__init__" (PySem.RfX.iA ⟨84, 17, 84, 21⟩ ⟨84, 23, 84, 27⟩) (PySem.RfX.iB ⟨85, 8, 85, 12⟩ ⟨85, 8, 85, 17⟩ ⟨85, 20, 85, 24⟩ ⟨85, 8, 85, 24⟩) PySem.RfX.iS .none .none dcR pmR anR cdR ctR), slR⟩)
    (ciR : PySem.W.codeIn K cdR "Refused.__init__" = true)
    (kCR : PySem.W.keepIn K (.ref CR) = true)
    (eCR : PySem.W.subIn K (.ref CR) (.type "BaseException") = some true)
    (tCR : PySem.W.typeIn K (.ref CR) = some (.type "type"))
    (hCR : PySem.W.hasDictIn K CR = true)
    (iCR : PySem.W.isClsIn K CR = true)
    (sCR : PySem.W.subIn K (.ref CR) (.ref CR) = some true)
    (a_has : PySem.W.nsIn K mainGlobals "has" = some (some (.ref f_has)))
    (l_has : K.lookup f_has = some ⟨oc_has, od_has, .func (PySem.W.fnOf "has" "has" (defArgs sHas) (defBody sHas) (defScope sHas) .none kV_has dc_has pm_has an_has cd_has ct_has), sl_has⟩)
    (c_has : PySem.W.codeIn K cd_has "has" = true)
    (k_has : PySem.W.keepIn K (.ref f_has) = true)
    (a_lower_dikes : PySem.W.nsIn K mainGlobals "lower_dikes" = some (some (.ref f_lower_dikes)))
    (l_lower_dikes : K.lookup f_lower_dikes = some ⟨oc_lower_dikes, od_lower_dikes, .func (PySem.W.fnOf "lower_dikes" "lower_dikes" (defArgs sLower) (defBody sLower) (defScope sLower) .none kV_lower_dikes dc_lower_dikes pm_lower_dikes an_lower_dikes cd_lower_dikes ct_lower_dikes), sl_lower_dikes⟩)
    (c_lower_dikes : PySem.W.codeIn K cd_lower_dikes "lower_dikes" = true)
    (k_lower_dikes : PySem.W.keepIn K (.ref f_lower_dikes) = true)
    (a_price_of : PySem.W.nsIn K mainGlobals "price_of" = some (some (.ref f_price_of)))
    (l_price_of : K.lookup f_price_of = some ⟨oc_price_of, od_price_of, .func (PySem.W.fnOf "price_of" "price_of" (defArgs sPrice) (defBody sPrice) (defScope sPrice) .none kV_price_of dc_price_of pm_price_of an_price_of cd_price_of ct_price_of), sl_price_of⟩)
    (c_price_of : PySem.W.codeIn K cd_price_of "price_of" = true)
    (k_price_of : PySem.W.keepIn K (.ref f_price_of) = true)
    (a_least_price : PySem.W.nsIn K mainGlobals "least_price" = some (some (.ref f_least_price)))
    (l_least_price : K.lookup f_least_price = some ⟨oc_least_price, od_least_price, .func (PySem.W.fnOf "least_price" "least_price" (defArgs sLeast) (defBody sLeast) (defScope sLeast) .none kV_least_price dc_least_price pm_least_price an_least_price cd_least_price ct_least_price), sl_least_price⟩)
    (c_least_price : PySem.W.codeIn K cd_least_price "least_price" = true)
    (k_least_price : PySem.W.keepIn K (.ref f_least_price) = true)
    (a_height_for : PySem.W.nsIn K mainGlobals "height_for" = some (some (.ref f_height_for)))
    (l_height_for : K.lookup f_height_for = some ⟨oc_height_for, od_height_for, .func (PySem.W.fnOf "height_for" "height_for" (defArgs sHeight) (defBody sHeight) (defScope sHeight) .none kV_height_for dc_height_for pm_height_for an_height_for cd_height_for ct_height_for), sl_height_for⟩)
    (c_height_for : PySem.W.codeIn K cd_height_for "height_for" = true)
    (k_height_for : PySem.W.keepIn K (.ref f_height_for) = true)
    (a_call_at : PySem.W.nsIn K mainGlobals "call_at" = some (some (.ref f_call_at)))
    (l_call_at : K.lookup f_call_at = some ⟨oc_call_at, od_call_at, .func (PySem.W.fnOf "call_at" "call_at" (defArgs sCallAt) (defBody sCallAt) (defScope sCallAt) .none kV_call_at dc_call_at pm_call_at an_call_at cd_call_at ct_call_at), sl_call_at⟩)
    (c_call_at : PySem.W.codeIn K cd_call_at "call_at" = true)
    (k_call_at : PySem.W.keepIn K (.ref f_call_at) = true)
    (a_refuse_where : PySem.W.nsIn K mainGlobals "refuse_where" = some (some (.ref f_refuse_where)))
    (l_refuse_where : K.lookup f_refuse_where = some ⟨oc_refuse_where, od_refuse_where, .func (PySem.W.fnOf "refuse_where" "refuse_where" (defArgs sRefuse) (defBody sRefuse) (defScope sRefuse) .none kV_refuse_where dc_refuse_where pm_refuse_where an_refuse_where cd_refuse_where ct_refuse_where), sl_refuse_where⟩)
    (c_refuse_where : PySem.W.codeIn K cd_refuse_where "refuse_where" = true)
    (k_refuse_where : PySem.W.keepIn K (.ref f_refuse_where) = true)
    (a_begins : PySem.W.nsIn K mainGlobals "begins" = some (some (.ref f_begins)))
    (l_begins : K.lookup f_begins = some ⟨oc_begins, od_begins, .func (PySem.W.fnOf "begins" "begins" (defArgs sBegins) (defBody sBegins) (defScope sBegins) .none kV_begins dc_begins pm_begins an_begins cd_begins ct_begins), sl_begins⟩)
    (c_begins : PySem.W.codeIn K cd_begins "begins" = true)
    (k_begins : PySem.W.keepIn K (.ref f_begins) = true)
    (a_new_dike : PySem.W.nsIn K mainGlobals "new_dike" = some (some (.ref f_new_dike)))
    (l_new_dike : K.lookup f_new_dike = some ⟨oc_new_dike, od_new_dike, .func (PySem.W.fnOf "new_dike" "new_dike" (defArgs sNewDike) (defBody sNewDike) (defScope sNewDike) .none kV_new_dike dc_new_dike pm_new_dike an_new_dike cd_new_dike ct_new_dike), sl_new_dike⟩)
    (c_new_dike : PySem.W.codeIn K cd_new_dike "new_dike" = true)
    (k_new_dike : PySem.W.keepIn K (.ref f_new_dike) = true)
    (a_floods : PySem.W.nsIn K mainGlobals "floods" = some (some (.ref f_floods)))
    (l_floods : K.lookup f_floods = some ⟨oc_floods, od_floods, .func (PySem.W.fnOf "floods" "floods" (defArgs sFloods) (defBody sFloods) (defScope sFloods) .none kV_floods dc_floods pm_floods an_floods cd_floods ct_floods), sl_floods⟩)
    (c_floods : PySem.W.codeIn K cd_floods "floods" = true)
    (k_floods : PySem.W.keepIn K (.ref f_floods) = true)
    (a_dry : PySem.W.nsIn K mainGlobals "dry" = some (some (.ref f_dry)))
    (l_dry : K.lookup f_dry = some ⟨oc_dry, od_dry, .func (PySem.W.fnOf "dry" "dry" (defArgs sDry) (defBody sDry) (defScope sDry) .none kV_dry dc_dry pm_dry an_dry cd_dry ct_dry), sl_dry⟩)
    (c_dry : PySem.W.codeIn K cd_dry "dry" = true)
    (k_dry : PySem.W.keepIn K (.ref f_dry) = true)
    (a_ask_kept : PySem.W.nsIn K mainGlobals "ask_kept" = some (some (.ref f_ask_kept)))
    (l_ask_kept : K.lookup f_ask_kept = some ⟨oc_ask_kept, od_ask_kept, .func (PySem.W.fnOf "ask_kept" "ask_kept" (defArgs sAskKept) (defBody sAskKept) (defScope sAskKept) .none kV_ask_kept dc_ask_kept pm_ask_kept an_ask_kept cd_ask_kept ct_ask_kept), sl_ask_kept⟩)
    (c_ask_kept : PySem.W.codeIn K cd_ask_kept "ask_kept" = true)
    (k_ask_kept : PySem.W.keepIn K (.ref f_ask_kept) = true)
    (a_raise_to : PySem.W.nsIn K mainGlobals "raise_to" = some (some (.ref f_raise_to)))
    (l_raise_to : K.lookup f_raise_to = some ⟨oc_raise_to, od_raise_to, .func (PySem.W.fnOf "raise_to" "raise_to" (defArgs sRaiseTo) (defBody sRaiseTo) (defScope sRaiseTo) .none kV_raise_to dc_raise_to pm_raise_to an_raise_to cd_raise_to ct_raise_to), sl_raise_to⟩)
    (c_raise_to : PySem.W.codeIn K cd_raise_to "raise_to" = true)
    (k_raise_to : PySem.W.keepIn K (.ref f_raise_to) = true)
    (a_for_money : PySem.W.nsIn K mainGlobals "for_money" = some (some (.ref f_for_money)))
    (l_for_money : K.lookup f_for_money = some ⟨oc_for_money, od_for_money, .func (PySem.W.fnOf "for_money" "for_money" (defArgs sForMoney) (defBody sForMoney) (defScope sForMoney) .none kV_for_money dc_for_money pm_for_money an_for_money cd_for_money ct_for_money), sl_for_money⟩)
    (c_for_money : PySem.W.codeIn K cd_for_money "for_money" = true)
    (k_for_money : PySem.W.keepIn K (.ref f_for_money) = true)
    (a_told : PySem.W.nsIn K mainGlobals "told" = some (some (.ref f_told)))
    (l_told : K.lookup f_told = some ⟨oc_told, od_told, .func (PySem.W.fnOf "told" "told" (defArgs sTold) (defBody sTold) (defScope sTold) .none kV_told dc_told pm_told an_told cd_told ct_told), sl_told⟩)
    (c_told : PySem.W.codeIn K cd_told "told" = true)
    (k_told : PySem.W.keepIn K (.ref f_told) = true)
    (a_told_or_refused : PySem.W.nsIn K mainGlobals "told_or_refused" = some (some (.ref f_told_or_refused)))
    (l_told_or_refused : K.lookup f_told_or_refused = some ⟨oc_told_or_refused, od_told_or_refused, .func (PySem.W.fnOf "told_or_refused" "told_or_refused" (defArgs sToldOr) (defBody sToldOr) (defScope sToldOr) .none kV_told_or_refused dc_told_or_refused pm_told_or_refused an_told_or_refused cd_told_or_refused ct_told_or_refused), sl_told_or_refused⟩)
    (c_told_or_refused : PySem.W.codeIn K cd_told_or_refused "told_or_refused" = true)
    (k_told_or_refused : PySem.W.keepIn K (.ref f_told_or_refused) = true)
    (a_answers : PySem.W.nsIn K mainGlobals "answers" = some (some (.ref f_answers)))
    (l_answers : K.lookup f_answers = some ⟨oc_answers, od_answers, .func (PySem.W.fnOf "answers" "answers" (defArgs sAnswers) (defBody sAnswers) (defScope sAnswers) .none kV_answers dc_answers pm_answers an_answers cd_answers ct_answers), sl_answers⟩)
    (c_answers : PySem.W.codeIn K cd_answers "answers" = true)
    (k_answers : PySem.W.keepIn K (.ref f_answers) = true)
    (zcCOMP : PySem.W.nsIn K mainGlobals "MOST_COMPARTMENTS" = some (some (.int 7 tk0)))
    (zcDIKES : PySem.W.nsIn K mainGlobals "MOST_DIKES" = some (some (.int 12 tk1)))
    (zcHEIGHT : PySem.W.nsIn K mainGlobals "MOST_HEIGHT" = some (some (.int 100 tk2)))
    (zcCOST : PySem.W.nsIn K mainGlobals "MOST_COST" = some (some (.int 1000 tk3)))
    (zcSEA : PySem.W.nsIn K mainGlobals "SEA" = some (some (.int 0 tk4)))
    (zcBEGINS : PySem.W.nsIn K mainGlobals "BEGINS" = some (some (.int 0 tk5)))
    (zcDIKE : PySem.W.nsIn K mainGlobals "DIKE" = some (some (.int 1 tk6)))
    (zcFLOODS : PySem.W.nsIn K mainGlobals "FLOODS" = some (some (.int 2 tk7)))
    (zcDRY : PySem.W.nsIn K mainGlobals "DRY" = some (some (.int 3 tk8)))
    (zcRAISE : PySem.W.nsIn K mainGlobals "RAISE_TO" = some (some (.int 4 tk9)))
    (zcNOTSO : PySem.W.nsIn K mainGlobals "NOT_SO" = some (some (.int (-1) tk10)))
    (zcNONE : PySem.W.nsIn K mainGlobals "NONE_SUCH" = some (some (.int (-2) tk11)))
    (zcWRONG : PySem.W.nsIn K mainGlobals "WRONG" = some (some (.int (-4) tk12)))
    (zcFULL : PySem.W.nsIn K mainGlobals "FULL" = some (some (.int (-5) tk13)))
    (zcALWAYS : PySem.W.nsIn K mainGlobals "ALWAYS" = some (some (.int (-6) tk14)))
    (zcMONEY : PySem.W.nsIn K mainGlobals "MOST_MONEY" = some (some (.int 1000000 tk15)))
    (aNums : PySem.W.nsIn K mainGlobals "NUMBERS_OF" = some (some (.ref nums)))
    (lNums : K.lookup nums = some ⟨.type "tuple", odN, .seq #[.int 1 u1, .int 4 u2, .int 1 u3, .int 1 u4, .int 2 u5, .int 2 u6] nN, slN⟩)
    (zbLen : PySem.W.nsIn K mainGlobals "len" = some none)
    (zbRange : PySem.W.nsIn K mainGlobals "range" = some none)
    (zbEnum : PySem.W.nsIn K mainGlobals "enumerate" = some none)
    (zbSum : PySem.W.nsIn K mainGlobals "sum" = some none)
    (zbMin : PySem.W.nsIn K mainGlobals "min" = some none)
    (zbSorted : PySem.W.nsIn K mainGlobals "sorted" = some none)
    : ∃ fd : FuncData, (∀ (s : Shared) (us : List Value), us.length = (["calls"] : List Str).length → BindsTo s fd ⟨us, []⟩ ((["calls"] : List Str).zip us)) ∧ ∀ base : Heap, K.In base → base.Ns mainGlobals mg → FnOk P w K mg base CX0 9 fa fd ["calls"] (spAns K) := by
  have e := hfa.symm.trans (PySem.W.mg_of X G a_answers)
  cases e
  have rf : PySem.RfX.RfTxt K mg CR iR :=
    { gC := PySem.W.mg_of X G aCR, cls := ⟨nmR, qR, NR, bsR, _, snR, subR, abR, colR, ddR, m0, m1, m2, m3, m5, xR, by decide +kernel⟩, sa := saR, ga := gaR, gg := ggR, noN := nbR, iC := aiR, tC := tiR, kC := kCR, exC := eCR, tyC := tCR, hdC := hCR, te := exm_self eCR iCR tCR sCR,
      fn := ⟨_, _, _, _, _, _, _, _, _, _, _, _, _, _, liR, ciR⟩ }
  have T : Txt K mg ⟨CD, CL, CK, CR, CC, CN, iR, nums⟩ :=
    { clD := ⟨pgCD, hdCD, poCD, saCD⟩,
      gD := PySem.W.mg_of X G aCD,
      nD1 := nCD1,
      nD2 := nCD2,
      nD3 := nCD3,
      nD4 := nCD4,
      clL := ⟨pgCL, hdCL, poCL, saCL⟩,
      gL := PySem.W.mg_of X G aCL,
      nL1 := nCL1,
      nL2 := nCL2,
      clK := ⟨pgCK, hdCK, poCK, saCK⟩,
      gK := PySem.W.mg_of X G aCK,
      nK1 := nCK1,
      nK2 := nCK2,
      nK3 := nCK3,
      clC := ⟨pgCC, hdCC, poCC, saCC⟩,
      gC := PySem.W.mg_of X G aCC,
      nC1 := nCC1,
      nC2 := nCC2,
      nC3 := nCC3,
      clN := ⟨pgCN, hdCN, poCN, saCN⟩,
      gN := PySem.W.mg_of X G aCN,
      nN1 := nCN1,
      rf := rf,
      cCOMP := ⟨_, PySem.W.mg_of X G zcCOMP⟩,
      cDIKES := ⟨_, PySem.W.mg_of X G zcDIKES⟩,
      cHEIGHT := ⟨_, PySem.W.mg_of X G zcHEIGHT⟩,
      cCOST := ⟨_, PySem.W.mg_of X G zcCOST⟩,
      cSEA := ⟨_, PySem.W.mg_of X G zcSEA⟩,
      cBEGINS := ⟨_, PySem.W.mg_of X G zcBEGINS⟩,
      cDIKE := ⟨_, PySem.W.mg_of X G zcDIKE⟩,
      cFLOODS := ⟨_, PySem.W.mg_of X G zcFLOODS⟩,
      cDRY := ⟨_, PySem.W.mg_of X G zcDRY⟩,
      cRAISE := ⟨_, PySem.W.mg_of X G zcRAISE⟩,
      cNOTSO := ⟨_, PySem.W.mg_of X G zcNOTSO⟩,
      cNONE := ⟨_, PySem.W.mg_of X G zcNONE⟩,
      cWRONG := ⟨_, PySem.W.mg_of X G zcWRONG⟩,
      cFULL := ⟨_, PySem.W.mg_of X G zcFULL⟩,
      cALWAYS := ⟨_, PySem.W.mg_of X G zcALWAYS⟩,
      cMONEY := ⟨_, PySem.W.mg_of X G zcMONEY⟩,
      gNums := PySem.W.mg_of X G aNums,
      lNums := fun _ => .inr ⟨_, _, nN, lNums, rfl, rfl, (by show 6 ≤ sizeLine; decide), .cons ⟨_, rfl⟩ (.cons ⟨_, rfl⟩ (.cons ⟨_, rfl⟩ (.cons ⟨_, rfl⟩ (.cons ⟨_, rfl⟩ (.cons ⟨_, rfl⟩ .nil)))))⟩,
      bLen := PySem.W.mg_none_of X G zbLen,
      bRange := PySem.W.mg_none_of X G zbRange,
      bEnum := PySem.W.mg_none_of X G zbEnum,
      bSum := PySem.W.mg_none_of X G zbSum,
      bMin := PySem.W.mg_none_of X G zbMin,
      bSorted := PySem.W.mg_none_of X G zbSorted }
  refine ⟨PySem.W.fnOf "answers" "answers" (defArgs sAnswers) (defBody sAnswers) (defScope sAnswers) .none kV_answers dc_answers pm_answers an_answers cd_answers ct_answers, fun s us hu => match us, hu with | [_], _ => .of_eq rfl, fun base _ _ => ?_⟩
  have xD := ok_dikeI (P := P) (w := w) (base := base) ⟨_, fun_mk (st := sDikeI) liCD ciCD kiCD⟩ ⟨mkCD, aiCD, fiCD, kcCD⟩ T
  have xK := ok_keptI (P := P) (w := w) (base := base) ⟨_, fun_mk (st := sKeptI) liCK ciCK kiCK⟩ ⟨mkCK, aiCK, fiCK, kcCK⟩ T
  have xC := ok_callI (P := P) (w := w) (base := base) ⟨_, fun_mk (st := sCallI) liCC ciCC kiCC⟩ ⟨mkCC, aiCC, fiCC, kcCC⟩ T
  have xL := ok_landI (P := P) (w := w) (base := base) ⟨_, fun_mk (st := sLandI) liCL ciCL kiCL⟩ ⟨mkCL, aiCL, fiCL, kcCL⟩ T
  have xN := ok_lineI (P := P) (w := w) (base := base) ⟨_, fun_mk (st := sLineI) liCN ciCN kiCN⟩ ⟨mkCN, aiCN, fiCN, kcCN⟩ T xL
  have xFl := ok_flooded (P := P) (w := w) (base := base) ⟨_, fun_mk (st := sFlooded) lm_flooded cm_flooded km_flooded⟩ ⟨am_flooded, fm_flooded, km_flooded⟩ T
  have xDu := ok_dryup (P := P) (w := w) (base := base) ⟨_, fun_mk (st := sDryUp) lm_dry_up_to cm_dry_up_to km_dry_up_to⟩ ⟨am_dry_up_to, fm_dry_up_to, km_dry_up_to⟩ T xFl
  have yH := ok_has (P := P) (w := w) (base := base) ⟨_, fun_mk (st := sHas) l_has c_has k_has⟩ ⟨PySem.W.mg_of X G a_has, k_has⟩
  have yLo := ok_lower (P := P) (w := w) (base := base) ⟨_, fun_mk (st := sLower) l_lower_dikes c_lower_dikes k_lower_dikes⟩ ⟨PySem.W.mg_of X G a_lower_dikes, k_lower_dikes⟩ T yH
  have yPr := ok_price (P := P) (w := w) (base := base) ⟨_, fun_mk (st := sPrice) l_price_of c_price_of k_price_of⟩ ⟨PySem.W.mg_of X G a_price_of, k_price_of⟩ T yLo
  have yLe := ok_least (P := P) (w := w) (base := base) ⟨_, fun_mk (st := sLeast) l_least_price c_least_price k_least_price⟩ ⟨PySem.W.mg_of X G a_least_price, k_least_price⟩ T yPr xK
  have yHe := ok_height (P := P) (w := w) (base := base) ⟨_, fun_mk (st := sHeight) l_height_for c_height_for k_height_for⟩ ⟨PySem.W.mg_of X G a_height_for, k_height_for⟩ T yLe
  have yRw := ok_refuse (P := P) (w := w) (base := base) ⟨_, fun_mk (st := sRefuse) l_refuse_where c_refuse_where k_refuse_where⟩ ⟨PySem.W.mg_of X G a_refuse_where, k_refuse_where⟩ T
  have yCa := ok_callat (P := P) (w := w) (base := base) ⟨_, fun_mk (st := sCallAt) l_call_at c_call_at k_call_at⟩ ⟨PySem.W.mg_of X G a_call_at, k_call_at⟩ T xC
  have yBe := ok_begins (P := P) (w := w) (base := base) ⟨_, fun_mk (st := sBegins) l_begins c_begins k_begins⟩ ⟨PySem.W.mg_of X G a_begins, k_begins⟩ T yRw xL
  have yNd := ok_newdike (P := P) (w := w) (base := base) ⟨_, fun_mk (st := sNewDike) l_new_dike c_new_dike k_new_dike⟩ ⟨PySem.W.mg_of X G a_new_dike, k_new_dike⟩ T yRw xD
  have yFs := ok_floods (P := P) (w := w) (base := base) ⟨_, fun_mk (st := sFloods) l_floods c_floods k_floods⟩ ⟨PySem.W.mg_of X G a_floods, k_floods⟩ T yRw xFl
  have yDy := ok_dry (P := P) (w := w) (base := base) ⟨_, fun_mk (st := sDry) l_dry c_dry k_dry⟩ ⟨PySem.W.mg_of X G a_dry, k_dry⟩ T yRw xDu
  have yAk := ok_ask (P := P) (w := w) (base := base) ⟨_, fun_mk (st := sAskKept) l_ask_kept c_ask_kept k_ask_kept⟩ ⟨PySem.W.mg_of X G a_ask_kept, k_ask_kept⟩ T yRw yH
  have yRt := ok_raise (P := P) (w := w) (base := base) ⟨_, fun_mk (st := sRaiseTo) l_raise_to c_raise_to k_raise_to⟩ ⟨PySem.W.mg_of X G a_raise_to, k_raise_to⟩ T yRw yAk yLe yLo
  have yFm := ok_for (P := P) (w := w) (base := base) ⟨_, fun_mk (st := sForMoney) l_for_money c_for_money k_for_money⟩ ⟨PySem.W.mg_of X G a_for_money, k_for_money⟩ T yRw yAk yHe
  have yTo := ok_told (P := P) (w := w) (base := base) ⟨_, fun_mk (st := sTold) l_told c_told k_told⟩ ⟨PySem.W.mg_of X G a_told, k_told⟩ T yBe yNd yFs yDy yRt yFm
  have yTr := ok_toldor (P := P) (w := w) (base := base) ⟨_, fun_mk (st := sToldOr) l_told_or_refused c_told_or_refused k_told_or_refused⟩ ⟨PySem.W.mg_of X G a_told_or_refused, k_told_or_refused⟩ T yTo
  exact ok_answers (fun_mk (st := sAnswers) l_answers c_answers k_answers) T xN yCa yTr
end Dk
open PySem PySem.W PyProof.Rows
set_option maxRecDepth 100000 in
set_option maxHeartbeats 8000000 in
theorem PySem.Challenge.cw_dikeland_s01_answers_holds : PySem.Challenge.rw_dikeland_s01_answers.Holds := by
  w_on; k_headS; (case hw => exact ⟨[.list [.int 0, .int 1]], by decide +kernel, by decide +kernel⟩)
  k_fillS
  refine L2.walk_specK (r := PySem.Challenge.rw_dikeland_s01_answers) (k := 9) (CX := L2.CX0) (ps := ["calls"]) (sp := Dk.spAns) (by decide +kernel) rfl rfl ⟨rfl, by decide, by decide⟩ (fun w h Y => PySem.W.kIn_of Y) ?F ?S (fun _ _ _ _ z => z)
  case F =>
    intro w mg fa h Y KX G hmg
    refine' Dk.all_mk KX G hmg ?aCD ?pgCD ?hdCD ?poCD ?saCD ?mkCD ?kcCD ?nCD1 ?nCD2 ?nCD3 ?nCD4 ?aiCD ?fiCD ?liCD ?ciCD ?kiCD ?aCL ?pgCL ?hdCL ?poCL ?saCL ?mkCL ?kcCL ?nCL1 ?nCL2 ?aiCL ?fiCL ?liCL ?ciCL ?kiCL ?am_flooded ?fm_flooded ?lm_flooded ?cm_flooded ?km_flooded ?am_dry_up_to ?fm_dry_up_to ?lm_dry_up_to ?cm_dry_up_to ?km_dry_up_to ?aCK ?pgCK ?hdCK ?poCK ?saCK ?mkCK ?kcCK ?nCK1 ?nCK2 ?nCK3 ?aiCK ?fiCK ?liCK ?ciCK ?kiCK ?aCC ?pgCC ?hdCC ?poCC ?saCC ?mkCC ?kcCC ?nCC1 ?nCC2 ?nCC3 ?aiCC ?fiCC ?liCC ?ciCC ?kiCC ?aCN ?pgCN ?hdCN ?poCN ?saCN ?mkCN ?kcCN ?nCN1 ?aiCN ?fiCN ?liCN ?ciCN ?kiCN ?aCR ?xR ?saR ?gaR ?ggR ?nbR ?aiR ?tiR ?liR ?ciR ?kCR ?eCR ?tCR ?hCR ?iCR ?sCR ?a_has ?l_has ?c_has ?k_has ?a_lower_dikes ?l_lower_dikes ?c_lower_dikes ?k_lower_dikes ?a_price_of ?l_price_of ?c_price_of ?k_price_of ?a_least_price ?l_least_price ?c_least_price ?k_least_price ?a_height_for ?l_height_for ?c_height_for ?k_height_for ?a_call_at ?l_call_at ?c_call_at ?k_call_at ?a_refuse_where ?l_refuse_where ?c_refuse_where ?k_refuse_where ?a_begins ?l_begins ?c_begins ?k_begins ?a_new_dike ?l_new_dike ?c_new_dike ?k_new_dike ?a_floods ?l_floods ?c_floods ?k_floods ?a_dry ?l_dry ?c_dry ?k_dry ?a_ask_kept ?l_ask_kept ?c_ask_kept ?k_ask_kept ?a_raise_to ?l_raise_to ?c_raise_to ?k_raise_to ?a_for_money ?l_for_money ?c_for_money ?k_for_money ?a_told ?l_told ?c_told ?k_told ?a_told_or_refused ?l_told_or_refused ?c_told_or_refused ?k_told_or_refused ?a_answers ?l_answers ?c_answers ?k_answers ?zcCOMP ?zcDIKES ?zcHEIGHT ?zcCOST ?zcSEA ?zcBEGINS ?zcDIKE ?zcFLOODS ?zcDRY ?zcRAISE ?zcNOTSO ?zcNONE ?zcWRONG ?zcFULL ?zcALWAYS ?zcMONEY ?aNums ?lNums ?zbLen ?zbRange ?zbEnum ?zbSum ?zbMin ?zbSorted
    (case aCD => k_is)
    (case pgCD => k_is)
    (case hdCD => k_is)
    (case poCD => k_is)
    (case saCD => k_is)
    (case mkCD => k_is)
    (case kcCD => k_is)
    (case nCD1 => k_is)
    (case nCD2 => k_is)
    (case nCD3 => k_is)
    (case nCD4 => k_is)
    (case aiCD => k_is)
    (case fiCD => k_is)
    (case liCD => k_is)
    (case ciCD => k_is)
    (case kiCD => k_is)
    (case aCL => k_is)
    (case pgCL => k_is)
    (case hdCL => k_is)
    (case poCL => k_is)
    (case saCL => k_is)
    (case mkCL => k_is)
    (case kcCL => k_is)
    (case nCL1 => k_is)
    (case nCL2 => k_is)
    (case aiCL => k_is)
    (case fiCL => k_is)
    (case liCL => k_is)
    (case ciCL => k_is)
    (case kiCL => k_is)
    (case am_flooded => k_is)
    (case fm_flooded => k_is)
    (case lm_flooded => k_is)
    (case cm_flooded => k_is)
    (case km_flooded => k_is)
    (case am_dry_up_to => k_is)
    (case fm_dry_up_to => k_is)
    (case lm_dry_up_to => k_is)
    (case cm_dry_up_to => k_is)
    (case km_dry_up_to => k_is)
    (case aCK => k_is)
    (case pgCK => k_is)
    (case hdCK => k_is)
    (case poCK => k_is)
    (case saCK => k_is)
    (case mkCK => k_is)
    (case kcCK => k_is)
    (case nCK1 => k_is)
    (case nCK2 => k_is)
    (case nCK3 => k_is)
    (case aiCK => k_is)
    (case fiCK => k_is)
    (case liCK => k_is)
    (case ciCK => k_is)
    (case kiCK => k_is)
    (case aCC => k_is)
    (case pgCC => k_is)
    (case hdCC => k_is)
    (case poCC => k_is)
    (case saCC => k_is)
    (case mkCC => k_is)
    (case kcCC => k_is)
    (case nCC1 => k_is)
    (case nCC2 => k_is)
    (case nCC3 => k_is)
    (case aiCC => k_is)
    (case fiCC => k_is)
    (case liCC => k_is)
    (case ciCC => k_is)
    (case kiCC => k_is)
    (case aCN => k_is)
    (case pgCN => k_is)
    (case hdCN => k_is)
    (case poCN => k_is)
    (case saCN => k_is)
    (case mkCN => k_is)
    (case kcCN => k_is)
    (case nCN1 => k_is)
    (case aiCN => k_is)
    (case fiCN => k_is)
    (case liCN => k_is)
    (case ciCN => k_is)
    (case kiCN => k_is)
    (case aCR => k_is)
    (case xR => k_is)
    (case saR => k_is)
    (case gaR => k_is)
    (case ggR => k_is)
    (case nbR => k_is)
    (case aiR => k_is)
    (case tiR => k_is)
    (case liR => k_is)
    (case ciR => k_is)
    (case kCR => k_is)
    (case eCR => k_is)
    (case tCR => k_is)
    (case hCR => k_is)
    (case iCR => k_is)
    (case sCR => first | rfl | k_is)
    (case a_has => k_is)
    (case l_has => k_is)
    (case c_has => k_is)
    (case k_has => k_is)
    (case a_lower_dikes => k_is)
    (case l_lower_dikes => k_is)
    (case c_lower_dikes => k_is)
    (case k_lower_dikes => k_is)
    (case a_price_of => k_is)
    (case l_price_of => k_is)
    (case c_price_of => k_is)
    (case k_price_of => k_is)
    (case a_least_price => k_is)
    (case l_least_price => k_is)
    (case c_least_price => k_is)
    (case k_least_price => k_is)
    (case a_height_for => k_is)
    (case l_height_for => k_is)
    (case c_height_for => k_is)
    (case k_height_for => k_is)
    (case a_call_at => k_is)
    (case l_call_at => k_is)
    (case c_call_at => k_is)
    (case k_call_at => k_is)
    (case a_refuse_where => k_is)
    (case l_refuse_where => k_is)
    (case c_refuse_where => k_is)
    (case k_refuse_where => k_is)
    (case a_begins => k_is)
    (case l_begins => k_is)
    (case c_begins => k_is)
    (case k_begins => k_is)
    (case a_new_dike => k_is)
    (case l_new_dike => k_is)
    (case c_new_dike => k_is)
    (case k_new_dike => k_is)
    (case a_floods => k_is)
    (case l_floods => k_is)
    (case c_floods => k_is)
    (case k_floods => k_is)
    (case a_dry => k_is)
    (case l_dry => k_is)
    (case c_dry => k_is)
    (case k_dry => k_is)
    (case a_ask_kept => k_is)
    (case l_ask_kept => k_is)
    (case c_ask_kept => k_is)
    (case k_ask_kept => k_is)
    (case a_raise_to => k_is)
    (case l_raise_to => k_is)
    (case c_raise_to => k_is)
    (case k_raise_to => k_is)
    (case a_for_money => k_is)
    (case l_for_money => k_is)
    (case c_for_money => k_is)
    (case k_for_money => k_is)
    (case a_told => k_is)
    (case l_told => k_is)
    (case c_told => k_is)
    (case k_told => k_is)
    (case a_told_or_refused => k_is)
    (case l_told_or_refused => k_is)
    (case c_told_or_refused => k_is)
    (case k_told_or_refused => k_is)
    (case a_answers => k_is)
    (case l_answers => k_is)
    (case c_answers => k_is)
    (case k_answers => k_is)
    (case zcCOMP => k_is)
    (case zcDIKES => k_is)
    (case zcHEIGHT => k_is)
    (case zcCOST => k_is)
    (case zcSEA => k_is)
    (case zcBEGINS => k_is)
    (case zcDIKE => k_is)
    (case zcFLOODS => k_is)
    (case zcDRY => k_is)
    (case zcRAISE => k_is)
    (case zcNOTSO => k_is)
    (case zcNONE => k_is)
    (case zcWRONG => k_is)
    (case zcFULL => k_is)
    (case zcALWAYS => k_is)
    (case zcMONEY => k_is)
    (case aNums => k_is)
    (case lNums => k_is)
    (case zbLen => k_is)
    (case zbRange => k_is)
    (case zbEnum => k_is)
    (case zbSum => k_is)
    (case zbMin => k_is)
    (case zbSorted => k_is)
  case S =>
    intro K H xs a hO hwi hask hx
    cases hx with
    | cons h1 h2 =>
      cases h2
      cases h1 with
      | lst hs ha =>
        have e := L2.ints_dw a.1 _ ha
        subst e
        have q : ((Codec.inLen 0 300 a.1 && a.1.all (Codec.inInt (Int.ofNat 0) (Int.ofNat 4294967295))) && true) = true := hwi
        rw [Bool.and_eq_true, Bool.and_eq_true] at q
        refine ⟨_, a.1, rfl, hs, hask, fun x hx => ?_, fun H' p hp => .lst (L2.SqL.of hp) (L2.dw_ints _)⟩
        have q2 := List.all_eq_true.mp q.1.2 x hx
        unfold Codec.inInt at q2
        simp at q2
        omega
#print axioms PySem.Challenge.cw_dikeland_s01_answers_holds
