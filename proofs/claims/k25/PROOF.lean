import PyProof.Rows.All
import Wide.All
import OpenK.AllK
import Wide.FinOn
import HandS.ForMost
import HandS.ForExc
import HandS.Property
import HandS.OwnEq
import HandS.SlotsOwn
import HandS.TupAny
import HandS.TupLe
import HandS.IsInst
import HandS.Conv
import HandS.ExcInit
import HandS.ExcField
import HandS.SortKw
import HandS.Set
import KE.SortData
import KE.SortKeyHeap
import KE.DatumOrd
import KE.KOpsOwn
import HandS.SetFor
import HandS.SetTxt0
import HandS.Walk
import PySem.Challenge.RW_twochoosers_k25_whole_power_operators
set_option Elab.async false
set_option linter.all false
set_option maxRecDepth 100000
set_option maxHeartbeats 4000000
/-! Plain mathematics of powers: families of sets over names, minimal sets, duals. Sets are sublists of a list of names without repetition. -/
namespace KM
variable {α : Type} [DecidableEq α]

def sub (a c : List α) : Bool := a.all fun x => decide (x ∈ c)
def forced (F : List (List α)) (c : List α) : Bool := F.any fun f => sub f c
def meets (F : List (List α)) (c : List α) : Bool := F.all fun f => f.any fun x => decide (x ∈ c)
def subs (N : List α) : List (List α) := N.foldl (fun found x => found ++ found.map (· ++ [x])) [[]]
def step (least : List (List α)) (c : List α) : List (List α) := if forced least c then least else least ++ [c]
def greedy (l : List (List α)) : List (List α) := l.foldl step []
/-- greedy over the sets that fulfil P -/
def gstep (P : List α → Bool) (fnd : List (List α)) (c : List α) : List (List α) := if P c && !forced fnd c then fnd ++ [c] else fnd

theorem sub_iff {a c : List α} : sub a c = true ↔ ∀ x ∈ a, x ∈ c := by simp [sub]
theorem sub_refl (a : List α) : sub a a = true := sub_iff.mpr fun _ h => h
theorem sub_trans {a b c : List α} (h : sub a b = true) (h' : sub b c = true) : sub a c = true :=
  sub_iff.mpr fun x hx => sub_iff.mp h' x (sub_iff.mp h x hx)
theorem forced_iff {F : List (List α)} {c : List α} : forced F c = true ↔ ∃ f ∈ F, sub f c = true := by simp [forced]
theorem forced_up {F : List (List α)} {c d : List α} (h : sub c d = true) (hf : forced F c = true) : forced F d = true := by
  obtain ⟨f, h1, h2⟩ := forced_iff.mp hf
  exact forced_iff.mpr ⟨f, h1, sub_trans h2 h⟩
theorem forced_append (F G : List (List α)) (c : List α) : forced (F ++ G) c = (forced F c || forced G c) := by simp [forced]
theorem forced_nil (c : List α) : forced ([] : List (List α)) c = false := rfl

theorem step_pos {l : List (List α)} {c : List α} (h : forced l c = true) : step l c = l := if_pos h
theorem step_neg {l : List (List α)} {c : List α} (h : ¬ forced l c = true) : step l c = l ++ [c] := if_neg h
/-- greedy keeps what is forced -/
theorem forced_foldl (l : List (List α)) : ∀ (acc : List (List α)) (c : List α), forced (l.foldl step acc) c = (forced acc c || forced l c) := by
  induction l with
  | nil => intro acc c; simp [forced_nil]
  | cons a l ih =>
    intro acc c
    rw [List.foldl_cons, ih]
    have e : forced (a :: l) c = (sub a c || forced l c) := by simp [forced]
    rw [e]
    by_cases h : forced acc a = true
    · rw [step_pos h]
      cases hs : sub a c with
      | false => simp
      | true => simp [forced_up hs h]
    · rw [step_neg h, forced_append]
      have : forced [a] c = sub a c := by simp [forced]
      rw [this, Bool.or_assoc]
theorem forced_greedy (l : List (List α)) (c : List α) : forced (greedy l) c = forced l c := by
  unfold greedy
  rw [forced_foldl, forced_nil, Bool.false_or]

/-- what greedy yields is taken from the list, in its order, and no earlier one lies in a later one -/
theorem greedy_aux (l : List (List α)) : ∀ acc : List (List α), acc.Pairwise (fun a b => sub a b = false) →
    (l.foldl step acc).Pairwise (fun a b => sub a b = false) ∧ ∃ m, l.foldl step acc = acc ++ m ∧ m.Sublist l := by
  induction l with
  | nil => intro acc h; exact ⟨h, [], by simp, List.Sublist.refl _⟩
  | cons a l ih =>
    intro acc h
    rw [List.foldl_cons]
    by_cases hf : forced acc a = true
    · rw [step_pos hf]
      obtain ⟨h1, m, h2, h3⟩ := ih acc h
      exact ⟨h1, m, h2, h3.cons _⟩
    · rw [step_neg hf]
      have hp : (acc ++ [a]).Pairwise (fun a b => sub a b = false) := by
        rw [List.pairwise_append]
        refine ⟨h, by simp, fun x hx y hy => ?_⟩
        rw [List.mem_singleton] at hy
        subst hy
        cases hs : sub x y with
        | false => rfl
        | true => exact absurd (forced_iff.mpr ⟨x, hx, hs⟩) hf
      obtain ⟨h1, m, h2, h3⟩ := ih _ hp
      refine ⟨h1, a :: m, ?_, h3.cons_cons _⟩
      rw [h2, List.append_assoc, List.singleton_append]
theorem greedy_pairwise (l : List (List α)) : (greedy l).Pairwise (fun a b => sub a b = false) := (greedy_aux l [] .nil).1
theorem greedy_sublist (l : List (List α)) : (greedy l).Sublist l := by
  obtain ⟨_, m, h2, h3⟩ := greedy_aux l [] .nil
  unfold greedy
  rw [h2]
  exact h3

/-- the order of sets -/
structure Rk (rle : List α → List α → Bool) : Prop where
  total : ∀ a b, rle a b = true ∨ rle b a = true
  trans : ∀ a b c, rle a b = true → rle b c = true → rle a c = true
  anti : ∀ a b, rle a b = true → rle b a = true → a = b
  len : ∀ a b, rle a b = true → a.length ≤ b.length

/-- a subset of names that has as many is the same set -/
theorem sub_eq {N a b : List α} (hN : N.Nodup) (ha : a.Sublist N) (hb : b.Sublist N) (h : sub a b = true) (h' : sub b a = true) : a = b := by
  have key : ∀ {N a b : List α}, N.Nodup → a.Sublist N → b.Sublist N → (∀ x, x ∈ a ↔ x ∈ b) → a = b := by
    intro N
    induction N with
    | nil =>
      intro a b _ ha hb _
      rw [List.sublist_nil.mp ha, List.sublist_nil.mp hb]
    | cons n N ih =>
      intro a b hN ha hb hm
      rw [List.nodup_cons] at hN
      have no : ∀ {c : List α}, c.Sublist N → n ∉ c := fun hc hn => hN.1 (hc.subset hn)
      cases ha with
      | cons _ ha =>
        cases hb with
        | cons _ hb => exact ih hN.2 ha hb hm
        | @cons_cons b' _ _ hb => exact absurd ((hm n).mpr List.mem_cons_self) (no ha)
      | @cons_cons a' _ _ ha =>
        cases hb with
        | cons _ hb => exact absurd ((hm n).mp List.mem_cons_self) (no hb)
        | @cons_cons b' _ _ hb =>
          congr 1
          refine ih hN.2 ha hb fun x => ?_
          constructor
          · intro hx
            rcases List.mem_cons.mp ((hm x).mp (List.mem_cons_of_mem _ hx)) with e | e
            · subst e; exact absurd hx (no ha)
            · exact e
          · intro hx
            rcases List.mem_cons.mp ((hm x).mpr (List.mem_cons_of_mem _ hx)) with e | e
            · subst e; exact absurd hx (no hb)
            · exact e
  exact key hN ha hb fun x => ⟨sub_iff.mp h x, sub_iff.mp h' x⟩
theorem sub_len {a b : List α} (ha : a.Nodup) (h : sub a b = true) : a.length ≤ b.length := by
  induction a generalizing b with
  | nil => exact Nat.zero_le _
  | cons x a ih =>
    rw [List.nodup_cons] at ha
    have hx : x ∈ b := sub_iff.mp h x List.mem_cons_self
    have : sub a (b.erase x) = true := sub_iff.mpr fun y hy => by
      have hy' := sub_iff.mp h y (List.mem_cons_of_mem _ hy)
      have ne : y ≠ x := fun e => ha.1 (e ▸ hy)
      exact (List.mem_erase_of_ne ne).mpr hy'
    have := ih ha.2 this
    rw [List.length_erase_of_mem hx] at this
    have : 0 < b.length := List.length_pos_of_mem hx
    rw [List.length_cons]
    omega
theorem sub_of_len {a b : List α} (ha : a.Nodup) (hb : b.Nodup) (h : sub a b = true) (hl : b.length ≤ a.length) : sub b a = true := by
  refine sub_iff.mpr fun x hx => ?_
  by_cases hxa : x ∈ a
  · exact hxa
  · have : sub (x :: a) b = true := sub_iff.mpr fun y hy => by
      rcases List.mem_cons.mp hy with e | e
      · subst e; exact hx
      · exact sub_iff.mp h y e
    have := sub_len (List.nodup_cons.mpr ⟨hxa, ha⟩) this
    rw [List.length_cons] at this
    omega

/-- two lists in one strict order with the same members are one list -/
theorem sorted_eq {rle : List α → List α → Bool} (R : Rk rle) : ∀ {l m : List (List α)}, l.Pairwise (fun a b => rle a b = true) → m.Pairwise (fun a b => rle a b = true) → l.Nodup → m.Nodup → (∀ c, c ∈ l ↔ c ∈ m) → l = m
  | [], m, _, _, _, _, h => by
    cases m with
    | nil => rfl
    | cons b m => exact absurd ((h b).mpr List.mem_cons_self) (by simp)
  | a :: l, [], _, _, _, _, h => absurd ((h a).mp List.mem_cons_self) (by simp)
  | a :: l, b :: m, hl, hm, nl, nm, h => by
    rw [List.pairwise_cons] at hl hm
    rw [List.nodup_cons] at nl nm
    have e : a = b := by
      rcases List.mem_cons.mp ((h a).mp List.mem_cons_self) with e | e
      · exact e
      rcases List.mem_cons.mp ((h b).mpr List.mem_cons_self) with e' | e'
      · exact e'.symm
      exact R.anti _ _ (hl.1 b e') (hm.1 a e)
    subst e
    congr 1
    refine sorted_eq R hl.2 hm.2 nl.2 nm.2 fun c => ?_
    constructor
    · intro hc
      rcases List.mem_cons.mp ((h c).mp (List.mem_cons_of_mem _ hc)) with e | e
      · subst e; exact absurd hc nl.1
      · exact e
    · intro hc
      rcases List.mem_cons.mp ((h c).mpr (List.mem_cons_of_mem _ hc)) with e | e
      · subst e; exact absurd hc nm.1
      · exact e

/-- greedy over a list in order: the sets in which no other one of the list lies -/
theorem mem_greedy {rle : List α → List α → Bool} (R : Rk rle) {N : List α} (hN : N.Nodup) {l : List (List α)} (hl : ∀ c ∈ l, c.Sublist N) (hs : l.Pairwise (fun a b => rle a b = true)) (c : List α) :
    c ∈ greedy l ↔ c ∈ l ∧ ∀ d ∈ l, sub d c = true → d = c := by
  have gl := greedy_sublist l
  constructor
  · intro hc
    refine ⟨gl.subset hc, fun d hd hdc => ?_⟩
    have hf : forced (greedy l) d = true := by rw [forced_greedy]; exact forced_iff.mpr ⟨d, hd, sub_refl d⟩
    obtain ⟨g, hg, hgd⟩ := forced_iff.mp hf
    have hgc := sub_trans hgd hdc
    have gc : g = c := by
      have hgN := hl g (gl.subset hg)
      have hcN := hl c (gl.subset hc)
      have hp := greedy_pairwise l
      have hr : (greedy l).Pairwise (fun a b => rle a b = true) := hs.sublist gl
      have := hp.and hr
      obtain ⟨i, hi, ei⟩ := List.getElem_of_mem hg
      obtain ⟨j, hj, ej⟩ := List.getElem_of_mem hc
      rcases Nat.lt_trichotomy i j with h | h | h
      · have := (List.pairwise_iff_getElem.mp hp) i j hi hj h
        rw [ei, ej, hgc] at this
        cases this
      · subst h; rw [← ei, ← ej]
      · have hle := (List.pairwise_iff_getElem.mp hr) j i hj hi h
        rw [ei, ej] at hle
        have hlen := R.len _ _ hle
        exact sub_eq hN hgN hcN hgc (sub_of_len (hgN.nodup hN) (hcN.nodup hN) hgc hlen)
    subst gc
    exact sub_eq hN (hl d hd) (hl g (gl.subset hg)) hdc hgd
  · rintro ⟨hc, hm⟩
    have hf : forced (greedy l) c = true := by rw [forced_greedy]; exact forced_iff.mpr ⟨c, hc, sub_refl c⟩
    obtain ⟨g, hg, hgc⟩ := forced_iff.mp hf
    rw [← hm g (gl.subset hg) hgc]
    exact hg

theorem greedy_nodup (l : List (List α)) : (greedy l).Nodup :=
  (greedy_pairwise l).imp fun {a b} h e => by
    subst e
    rw [sub_refl] at h
    cases h

theorem greedy_eq {rle : List α → List α → Bool} (R : Rk rle) {N : List α} (hN : N.Nodup) {l m : List (List α)} (hl : ∀ c ∈ l, c.Sublist N) (hm : ∀ c ∈ m, c.Sublist N) (sl : l.Pairwise (fun a b => rle a b = true)) (sm : m.Pairwise (fun a b => rle a b = true))
    (h1 : ∀ c ∈ l, c ∈ m) (h2 : ∀ c ∈ m, ∃ d ∈ l, sub d c = true) : greedy l = greedy m := by
  refine sorted_eq R (sl.sublist (greedy_sublist l)) (sm.sublist (greedy_sublist m)) (greedy_nodup l) (greedy_nodup m) fun c => ?_
  rw [mem_greedy R hN hl sl, mem_greedy R hN hm sm]
  constructor
  · rintro ⟨hc, hmin⟩
    refine ⟨h1 c hc, fun d hd hdc => ?_⟩
    obtain ⟨e, he, hed⟩ := h2 d hd
    have q := hmin e he (sub_trans hed hdc)
    subst q
    exact sub_eq hN (hm d hd) (hl e he) hdc hed
  · rintro ⟨hc, hmin⟩
    obtain ⟨e, he, hec⟩ := h2 c hc
    have q := hmin e (h1 e he) hec
    subst q
    exact ⟨he, fun d hd hdc => hmin d (h1 d hd) hdc⟩

/-! all sets -/
theorem mem_subs_aux (N : List α) : ∀ (acc : List (List α)) (c : List α), c ∈ N.foldl (fun found x => found ++ found.map (· ++ [x])) acc ↔ ∃ a ∈ acc, ∃ b, b.Sublist N ∧ c = a ++ b := by
  induction N with
  | nil =>
    intro acc c
    simp only [List.foldl_nil, List.sublist_nil]
    constructor
    · intro h; exact ⟨c, h, [], rfl, by simp⟩
    · rintro ⟨a, ha, b, rfl, rfl⟩; simpa using ha
  | cons n N ih =>
    intro acc c
    rw [List.foldl_cons, ih]
    constructor
    · rintro ⟨a, ha, b, hb, rfl⟩
      rw [List.mem_append, List.mem_map] at ha
      rcases ha with ha | ⟨a', ha, rfl⟩
      · exact ⟨a, ha, b, hb.cons _, rfl⟩
      · exact ⟨a', ha, n :: b, hb.cons_cons _, by simp⟩
    · rintro ⟨a, ha, b, hb, rfl⟩
      cases hb with
      | cons _ hb => exact ⟨a, List.mem_append_left _ ha, b, hb, rfl⟩
      | @cons_cons b' _ _ hb => exact ⟨a ++ [n], List.mem_append_right _ (List.mem_map.mpr ⟨a, ha, rfl⟩), b', hb, by simp⟩
theorem mem_subs {N c : List α} : c ∈ subs N ↔ c.Sublist N := by
  unfold subs
  rw [mem_subs_aux]
  constructor
  · rintro ⟨a, ha, b, hb, rfl⟩
    rw [List.mem_singleton] at ha
    subst ha
    simpa using hb
  · intro h; exact ⟨[], by simp, c, h, by simp⟩
theorem subs_length (N : List α) : (subs N).length = 2 ^ N.length := by
  have : ∀ (N : List α) (acc : List (List α)), (N.foldl (fun found x => found ++ found.map (· ++ [x])) acc).length = acc.length * 2 ^ N.length := by
    intro N
    induction N with
    | nil => intro acc; simp
    | cons n N ih =>
      intro acc
      rw [List.foldl_cons, ih, List.length_append, List.length_map, List.length_cons, Nat.pow_succ]
      rw [← Nat.two_mul, Nat.mul_comm 2, Nat.mul_assoc, Nat.mul_comm 2]
  unfold subs
  rw [this]
  simp
theorem subs_snoc (N : List α) (x : α) : subs (N ++ [x]) = subs N ++ (subs N).map (· ++ [x]) := by
  unfold subs
  rw [List.foldl_append]
  rfl

/-! the sorted lists -/
section
variable (rle : List α → List α → Bool)
def srt (l : List (List α)) : List (List α) := l.mergeSort rle
def allS (N : List α) : List (List α) := srt rle (subs N)
/-- minimal_sets -/
def mini (l : List (List α)) : List (List α) := greedy (srt rle l)
/-- the least sets that fulfil P -/
def gre (N : List α) (P : List α → Bool) : List (List α) := (allS rle N).foldl (gstep P) []
variable {rle}
theorem srt_sorted (R : Rk rle) (l : List (List α)) : (srt rle l).Pairwise (fun a b => rle a b = true) :=
  List.pairwise_mergeSort (fun a b c => R.trans a b c) (fun a b => by rcases R.total a b with h | h <;> simp [h]) l
theorem mem_srt {l : List (List α)} {c : List α} : c ∈ srt rle l ↔ c ∈ l := List.mem_mergeSort
theorem srt_length {l : List (List α)} : (srt rle l).length = l.length := List.length_mergeSort l
theorem mem_allS {N c : List α} : c ∈ allS rle N ↔ c.Sublist N := mem_srt.trans mem_subs
theorem allS_length (N : List α) : (allS rle N).length = 2 ^ N.length := by unfold allS; rw [srt_length, subs_length]
theorem gre_filter (P : List α → Bool) : ∀ (l acc : List (List α)), l.foldl (gstep P) acc = (l.filter P).foldl step acc
  | [], acc => rfl
  | a :: l, acc => by
    rw [List.foldl_cons, gre_filter P l, List.filter_cons]
    cases h : P a with
    | false => simp [gstep, h]
    | true =>
      simp only [gstep, h, Bool.true_and, if_true]
      rw [List.foldl_cons]
      congr 1
      unfold step
      cases forced acc a <;> simp
theorem gre_eq (N : List α) (P : List α → Bool) : gre rle N P = greedy ((allS rle N).filter P) := gre_filter P _ _
theorem gre_congr {N : List α} {P P' : List α → Bool} (h : ∀ c, c.Sublist N → P c = P' c) : gre rle N P = gre rle N P' := by
  rw [gre_eq, gre_eq]
  congr 1
  exact List.filter_congr fun c hc => h c (mem_allS.mp hc)

/-- THE LEMMA: minimal_sets of a family is what is found by all sets -/
theorem mini_gre (R : Rk rle) {N : List α} (hN : N.Nodup) {L : List (List α)} (hL : ∀ c ∈ L, c.Sublist N) : mini rle L = gre rle N (forced L) := by
  rw [gre_eq]
  refine greedy_eq R hN (fun c hc => hL c (mem_srt.mp hc)) (fun c hc => mem_allS.mp (List.mem_filter.mp hc).1) (srt_sorted R L) ((srt_sorted R (subs N)).sublist List.filter_sublist) (fun c hc => ?_) fun c hc => ?_
  · have hc' := mem_srt.mp hc
    exact List.mem_filter.mpr ⟨mem_allS.mpr (hL c hc'), forced_iff.mpr ⟨c, hc', sub_refl c⟩⟩
  · obtain ⟨f, hf, hs⟩ := forced_iff.mp (List.mem_filter.mp hc).2
    exact ⟨f, mem_srt.mpr hf, hs⟩
theorem forced_srt (L : List (List α)) (c : List α) : forced (srt rle L) c = forced L c := by
  rw [Bool.eq_iff_iff, forced_iff, forced_iff]
  constructor <;> (rintro ⟨f, h1, h2⟩; exact ⟨f, by first | exact mem_srt.mp h1 | exact mem_srt.mpr h1, h2⟩)
theorem forced_mini (L : List (List α)) (c : List α) : forced (mini rle L) c = forced L c := by
  unfold mini
  rw [forced_greedy, forced_srt]
/-- P holds of all greater sets, too -/
def Up (N : List α) (P : List α → Bool) : Prop := ∀ c d, c.Sublist N → d.Sublist N → sub c d = true → P c = true → P d = true
theorem up_forced (N : List α) (L : List (List α)) : Up N (forced L) := fun _ _ _ _ h => forced_up h
theorem forced_gre {N : List α} {P : List α → Bool} (hP : Up N P) {c : List α} (hc : c.Sublist N) : forced (gre rle N P) c = P c := by
  rw [gre_eq, forced_greedy, Bool.eq_iff_iff, forced_iff]
  constructor
  · rintro ⟨f, hf, hs⟩
    obtain ⟨h1, h2⟩ := List.mem_filter.mp hf
    exact hP f c (mem_allS.mp h1) hc hs h2
  · intro h
    exact ⟨c, List.mem_filter.mpr ⟨mem_allS.mpr hc, h⟩, sub_refl c⟩
theorem gre_sub {N : List α} {P : List α → Bool} {c : List α} (h : c ∈ gre rle N P) : c.Sublist N ∧ P c = true := by
  rw [gre_eq] at h
  obtain ⟨h1, h2⟩ := List.mem_filter.mp ((greedy_sublist _).subset h)
  exact ⟨mem_allS.mp h1, h2⟩
theorem mini_sub {L : List (List α)} {c : List α} (h : c ∈ mini rle L) : c ∈ L := mem_srt.mp ((greedy_sublist _).subset h)
theorem gre_length {N : List α} {P : List α → Bool} : (gre rle N P).length ≤ 2 ^ N.length := by
  rw [gre_eq, ← allS_length (rle := rle) N]
  exact Nat.le_trans (greedy_sublist _).length_le (List.length_filter_le _ _)
theorem mini_length {L : List (List α)} : (mini rle L).length ≤ L.length := by
  rw [← srt_length (rle := rle) (l := L)]
  exact (greedy_sublist _).length_le
/-- minimal_sets of what is found already -/
theorem mini_of_gre (R : Rk rle) {N : List α} (hN : N.Nodup) {P : List α → Bool} (hP : Up N P) : mini rle (gre rle N P) = gre rle N P := by
  rw [mini_gre R hN fun c hc => (gre_sub hc).1]
  exact gre_congr fun c hc => forced_gre hP hc
theorem mini_filter (R : Rk rle) {N : List α} (hN : N.Nodup) {P : List α → Bool} (hP : Up N P) : mini rle ((allS rle N).filter P) = gre rle N P := by
  rw [mini_gre R hN fun c hc => mem_allS.mp (List.mem_filter.mp hc).1]
  refine gre_congr fun c hc => ?_
  rw [← forced_greedy, ← gre_eq]
  exact forced_gre hP hc
end

/-! complements -/
def cpl (N c : List α) : List α := N.filter fun x => !decide (x ∈ c)
theorem cpl_sub (N c : List α) : (cpl N c).Sublist N := List.filter_sublist
theorem mem_cpl {N c : List α} {x : α} : x ∈ cpl N c ↔ x ∈ N ∧ x ∉ c := by simp [cpl]
theorem cpl_cpl {N c : List α} (hN : N.Nodup) (hc : c.Sublist N) : cpl N (cpl N c) = c := by
  refine sub_eq hN (cpl_sub _ _) hc (sub_iff.mpr fun x hx => ?_) (sub_iff.mpr fun x hx => ?_)
  · obtain ⟨h1, h2⟩ := mem_cpl.mp hx
    by_cases h : x ∈ c
    · exact h
    · exact absurd (mem_cpl.mpr ⟨h1, h⟩) h2
  · exact mem_cpl.mpr ⟨hc.subset hx, fun h => (mem_cpl.mp h).2 hx⟩
def dual (N : List α) (P : List α → Bool) (c : List α) : Bool := !P (cpl N c)
theorem up_dual {N : List α} {P : List α → Bool} (hP : Up N P) : Up N (dual N P) := fun c d hc hd h hd' => by
  unfold dual at *
  cases e : P (cpl N d) with
  | false => rfl
  | true =>
    have := hP (cpl N d) (cpl N c) (cpl_sub _ _) (cpl_sub _ _) (sub_iff.mpr fun x hx => by
      obtain ⟨h1, h2⟩ := mem_cpl.mp hx
      exact mem_cpl.mpr ⟨h1, fun q => h2 (sub_iff.mp h x q)⟩) e
    rw [this] at hd'
    cases hd'
theorem dual_dual {N : List α} (hN : N.Nodup) {P : List α → Bool} {c : List α} (hc : c.Sublist N) : dual N (dual N P) c = P c := by
  unfold dual
  rw [cpl_cpl hN hc, Bool.not_not]
/-- a set meets all of a family if its complement is not forced -/
theorem meets_dual {N : List α} {F : List (List α)} (hF : ∀ f ∈ F, f.Sublist N) (c : List α) : meets F c = dual N (forced F) c := by
  unfold dual
  rw [Bool.eq_iff_iff, Bool.not_eq_true', Bool.eq_false_iff]
  unfold meets
  rw [List.all_eq_true]
  constructor
  · intro h hf
    obtain ⟨f, hf, hs⟩ := forced_iff.mp hf
    have := h f hf
    rw [List.any_eq_true] at this
    obtain ⟨x, hx, hxc⟩ := this
    exact (mem_cpl.mp (sub_iff.mp hs x hx)).2 (of_decide_eq_true hxc)
  · intro h f hf
    rw [List.any_eq_true]
    apply Classical.byContradiction
    intro hn
    refine h (forced_iff.mpr ⟨f, hf, sub_iff.mpr fun x hx => mem_cpl.mpr ⟨(hF f hf).subset hx, fun hxc => hn ⟨x, hx, decide_eq_true hxc⟩⟩⟩)
/-- the sets one ∪ other -/
def joinN (N a b : List α) : List α := N.filter fun x => decide (x ∈ a) || decide (x ∈ b)
theorem joinN_sub (N a b : List α) : (joinN N a b).Sublist N := List.filter_sublist
theorem sub_joinN {N a b c : List α} (ha : a.Sublist N) (hb : b.Sublist N) : sub (joinN N a b) c = (sub a c && sub b c) := by
  rw [Bool.eq_iff_iff, Bool.and_eq_true, sub_iff, sub_iff, sub_iff]
  unfold joinN
  constructor
  · intro h
    exact ⟨fun x hx => h x (List.mem_filter.mpr ⟨ha.subset hx, by simp [hx]⟩), fun x hx => h x (List.mem_filter.mpr ⟨hb.subset hx, by simp [hx]⟩)⟩
  · rintro ⟨h1, h2⟩ x hx
    have := (List.mem_filter.mp hx).2
    simp only [Bool.or_eq_true, decide_eq_true_eq] at this
    rcases this with h | h
    · exact h1 x h
    · exact h2 x h
theorem forced_joins {N : List α} {F G : List (List α)} (hF : ∀ f ∈ F, f.Sublist N) (hG : ∀ g ∈ G, g.Sublist N) (c : List α) : forced (F.flatMap fun a => G.map (joinN N a)) c = (forced F c && forced G c) := by
  rw [Bool.eq_iff_iff, Bool.and_eq_true, forced_iff, forced_iff, forced_iff]
  constructor
  · rintro ⟨f, hf, hs⟩
    rw [List.mem_flatMap] at hf
    obtain ⟨a, ha, hf⟩ := hf
    rw [List.mem_map] at hf
    obtain ⟨b, hb, rfl⟩ := hf
    rw [sub_joinN (hF a ha) (hG b hb), Bool.and_eq_true] at hs
    exact ⟨⟨a, ha, hs.1⟩, b, hb, hs.2⟩
  · rintro ⟨⟨a, ha, h1⟩, b, hb, h2⟩
    exact ⟨joinN N a b, List.mem_flatMap.mpr ⟨a, ha, List.mem_map.mpr ⟨b, hb, rfl⟩⟩, by rw [sub_joinN (hF a ha) (hG b hb), h1, h2]; rfl⟩
theorem filter_sub {N c : List α} (hN : N.Nodup) (hc : c.Sublist N) : (N.filter fun x => decide (x ∈ c)) = c :=
  sub_eq hN List.filter_sublist hc (sub_iff.mpr fun x hx => of_decide_eq_true (List.mem_filter.mp hx).2) (sub_iff.mpr fun x hx => List.mem_filter.mpr ⟨hc.subset hx, decide_eq_true hx⟩)
/-- covers: by the least sets or by all sets -/
theorem covers_all {rle : List α → List α → Bool} {N : List α} {L : List (List α)} (hL : ∀ c ∈ L, c.Sublist N) (P : List α → Bool) (hP : Up N P) : L.all P = (allS rle N).all fun c => !(forced L c) || P c := by
  rw [Bool.eq_iff_iff, List.all_eq_true, List.all_eq_true]
  constructor
  · intro h c hc
    cases e : forced L c with
    | false => rfl
    | true =>
      obtain ⟨f, hf, hs⟩ := forced_iff.mp e
      rw [hP f c (hL f hf) (mem_allS.mp hc) hs (h f hf)]
      rfl
  · intro h c hc
    have := h c (mem_allS.mpr (hL c hc))
    rw [forced_iff.mpr ⟨c, hc, sub_refl c⟩] at this
    simpa using this
end KM

/-! Rules of our own over the layer: own operators, != by an own ==, a method by keywords, list[i] op= e, an unbound __init__ by an own class. -/
namespace L2.K25
open PySem PySem.Spec PyProof.Rows

/-! ### own operators: x | y, x & y, ~x, x == y, x != y of instances of one class -/
def tBinS (C : Addr) (sp : Sp) (E : St → XK) (ta tb : TE) : TE := fun σ H Q => ta σ H fun x H1 => tb σ H1 fun y H2 =>
  ∃ (a dx : Addr) (fs : List (Str × V)) (b dy : Addr) (gs : List (Str × V)), x = .ref a ∧ y = .ref b ∧ H2 a = some (.ins C dx fs) ∧ H2 b = some (.ins C dy gs) ∧ sp [x, y] H2 Q (E σ)
def tInvS (C : Addr) (sp : Sp) (E : St → XK) (ta : TE) : TE := fun σ H Q => ta σ H fun x H1 =>
  ∃ (a dx : Addr) (fs : List (Str × V)), x = .ref a ∧ H1 a = some (.ins C dx fs) ∧ sp [x] H1 Q (E σ)
def rEqO (C : Addr) (sp : Sp) : R2 := fun x y H Q =>
  ∃ (a dx : Addr) (fs : List (Str × V)) (b dy : Addr) (gs : List (Str × V)), x = .ref a ∧ y = .ref b ∧ H a = some (.ins C dx fs) ∧ H b = some (.ins C dy gs) ∧ sp [x, y] H Q E0
def rNeO (C : Addr) (sp : Sp) : R2 := fun x y H Q =>
  ∃ (a dx : Addr) (fs : List (Str × V)) (b dy : Addr) (gs : List (Str × V)), x = .ref a ∧ y = .ref b ∧ H a = some (.ins C dx fs) ∧ H b = some (.ins C dy gs) ∧
    sp [x, y] H (fun v H' => ∃ k, v = .bl k ∧ Q (.bl (!k)) H') E0

section
variable {X : Cx} {CX : CXT} {k : Nat} {C g : Addr} {fd : FuncData} {ps : List Str} {sp : Sp} {E : St → XK} {a b : Expr} {ta tb : TE} {pos : Pos}
theorem inst_at {pins : List (Addr × Obj)} {σ : St} {H : Hp} {s : Shared} {p dx : Addr} {fs : List (Str × V)} (I : Inv X pins σ H s) (e : H p = some (.ins C dx fs)) :
    ∃ od, PySem.W.InstAt s.heap p (PySem.W.instObj C dx) C (some od) := by
  obtain ⟨mA, O, _⟩ := ins_get I.hok e
  obtain ⟨od, J, _⟩ := O.look
  exact ⟨od, J⟩
theorem pe_binS {op : Operator} (hc : PySem.W.selfFirst X.K C = true) (hs : PySem.W.findIn X.K (.ref C) (PySem.dunder op.info.2) = some (some (.ref g))) (hf : PySem.W.isFn X.K (.ref g) = true)
    (F : FnOk X.prog X.w X.K X.mg X.base CX k g fd ps sp) (hr : Room k X.A) (hb : Binds X.K fd ps []) (hx : ∀ σ, PassesAt CX X σ (E σ)) (ha : PE X a ta) (hbb : PE X b tb) : PE X (.BinOp a op b pos) (tBinS C sp E ta tb) := by
  refine ⟨fun pins s σ H Q I h => wpAny_BinOp (binT ha hbb I h fun v u s2 x y H2 I2 rx ry q => ?_)⟩
  obtain ⟨p, dx, fs, q', dy, gs, rfl, rfl, ea, eb, q⟩ := q
  cases rx
  cases ry
  obtain ⟨od, J⟩ := inst_at I2 ea
  obtain ⟨od', J'⟩ := inst_at I2 eb
  obtain ⟨m, hF⟩ := I2.fr
  refine PySem.W.binop_K hF I2.ok.mod.kin J J'.type hc hs hf ?_
  refine wpAny_mono (run_fnS (us := [.ref p, .ref q']) (vs := [.ref p, .ref q']) F hr hb (hx σ) I2 (.cons rfl (.cons rfl .nil)) q) (fun r s' z => ?_) fun _ _ e => e
  obtain ⟨z', H', I', rz, qz⟩ := z
  exact SlX.cmpback rz ⟨z', H', I', rz, qz⟩
theorem pe_invS (hs : PySem.W.findIn X.K (.ref C) "__invert__" = some (some (.ref g))) (hf : PySem.W.isFn X.K (.ref g) = true)
    (F : FnOk X.prog X.w X.K X.mg X.base CX k g fd ps sp) (hr : Room k X.A) (hb : Binds X.K fd ps []) (hx : ∀ σ, PassesAt CX X σ (E σ)) (ha : PE X a ta) : PE X (.UnaryOp .Invert a pos) (tInvS C sp E ta) := by
  refine ⟨fun pins s σ H Q I h => UnaryOp_ (thn (ha.run pins s σ H _ I h) fun v s1 ⟨x, H1, I1, r1, q1⟩ => ?_)⟩
  obtain ⟨p, dx, fs, rfl, ea, q⟩ := q1
  cases r1
  obtain ⟨od, J⟩ := inst_at I1 ea
  obtain ⟨m, hF⟩ := I1.fr
  exact PySem.W.ksp_inv hF I1.ok.mod.kin J hs hf (run_fnS (us := [.ref p]) (vs := [.ref p]) F hr hb (hx σ) I1 (.cons rfl .nil) q)
theorem op_eqO (hn : PySem.W.notFirst X.K C (.ref C) = true) (hs : PySem.W.findIn X.K (.ref C) "__eq__" = some (some (.ref g))) (hf : PySem.W.isFn X.K (.ref g) = true)
    (F : FnOk X.prog X.w X.K X.mg X.base CX0 k g fd ps sp) (hr : Room k X.A) (hb : Binds X.K fd ps []) : OpR X (compareOp .Eq) (rEqO C sp) := by
  intro pins s σ H x y v u Q I rx ry h
  obtain ⟨p, dx, fs, q', dy, gs, rfl, rfl, ea, eb, q⟩ := h
  cases rx
  cases ry
  obtain ⟨od, J⟩ := inst_at I ea
  obtain ⟨od', J'⟩ := inst_at I eb
  obtain ⟨m, hF⟩ := I.fr
  have hop : compareOp .Eq (.ref p) (.ref q') = richCompare .Eq (.ref p) (.ref q') := rfl
  rw [hop]
  refine PySem.W.cmp_K (op := .Eq) (tb := .ref C) hr.units0 hF I.ok.mod.kin J J'.type hn hs hf ?_
  refine wpAny_mono (run_fn (us := [.ref p, .ref q']) (vs := [.ref p, .ref q']) F hr hb .nil pass0 I (.cons rfl (.cons rfl .nil)) q) (fun r s' z => ?_) fun _ _ e => e
  obtain ⟨z', H', I', rz, qz⟩ := z
  exact SlX.cmpback rz ⟨z', H', I', rz, qz⟩
end
end L2.K25

namespace L2.K25
open PySem PySem.Spec PyProof.Rows
section
variable {prog : Program} {w : World} {A : Around} {E : Value → Shared → Prop} {s : Shared} {K : PySem.W.Frag} {x C : Addr} {ox : Obj} {od : Option Obj} {name : Str}
/-- the special method is a slot of a built-in base -/
theorem boundSlot {B : String} {id : String} {args : List Value} {Q : Option Value → Shared → Prop} (X : K.In s.heap) (I : PySem.W.InstAt s.heap x ox C od) (hs : PySem.W.findIn K (.ref C) name = some (some (.builtin id))) (S : Slot B name id)
    (h : wpAny (model prog w) A (call (.builtin id) (.ref x :: args)) (fun v => Q (some v)) E s) : wpAny (model prog w) A (callSpecialIfBound? (.ref x) name args) Q E s := by
  have last : wpAny (model prog w) A (do let r ← call (.builtin id) ([Value.ref x] ++ args); pure (some r)) Q E s := wpAny_bind (wpAny_mono h (fun _ _ q => wpAny_pure q) fun _ _ q => q)
  simp only [callSpecialIfBound?, bindSpecialIfBound?]
  refine wpAny_holding (wpAny_bind (wpAny_bind (wpAny_bind (I.type.here ((PySem.W.looks_findIn X hs).here ?_)))))
  refine wpAny_bind (wpAny_askSetting (wpAny_ite ?_))
  split
  · exact wpAny_bind (wpAny_of_eq (S.bind (.ref x)) (wpAny_pure last))
  · exact wpAny_tryCatch (wpAny_bind (wpAny_of_eq (S.bind (.ref x)) (wpAny_pure last)))
end
section
variable {X : Cx} {CX : CXT} {k : Nat} {C g : Addr} {fd : FuncData} {ps : List Str} {sp : Sp} {a b : Expr} {ta tb : TE} {pos : Pos}
/-- x != y by the class's own __eq__ -/
theorem op_neO (hn : PySem.W.notFirst X.K C (.ref C) = true) (hne : PySem.W.findIn X.K (.ref C) "__ne__" = some (some (.builtin "object.__ne__"))) (hob : PySem.W.mroIn X.K C (.type "object") = some true)
    (hs : PySem.W.findIn X.K (.ref C) "__eq__" = some (some (.ref g))) (hf : PySem.W.isFn X.K (.ref g) = true) (F : FnOk X.prog X.w X.K X.mg X.base CX0 k g fd ps sp) (hr : Room (k + 1) X.A) (hb : Binds X.K fd ps []) :
    OpR X (compareOp .NotEq) (rNeO C sp) := by
  intro pins s σ H x y v u Q I rx ry h
  obtain ⟨p, dx, fs, q', dy, gs, rfl, rfl, ea, eb, q⟩ := h
  cases rx
  cases ry
  obtain ⟨od, J⟩ := inst_at I ea
  obtain ⟨od', J'⟩ := inst_at I eb
  have hl : ([Value.ref p, Value.ref q'] ++ ([] : List Value)).length = ps.length := by
    rw [← F.len _ _ _ _ q] <;> rfl
  have bt := hb s [.ref p, .ref q'] I.kIn hl
  have inner : wpAny (model X.prog X.w) X.A.in1 (callSpecialIfBound? (.ref p) "__eq__" [.ref q']) (fun r s' => ∃ c, r = some (Value.bool c) ∧ EP X pins σ Q (.bool (!c)) s') X.xe s := by
    refine PySem.W.ifBound_K I.kIn J hs hf (wpAny_call (codeAny_mono (F.run X.A.in1 X.stack s H ⟨[.ref p, .ref q'], []⟩ [.ref p, .ref q'] [.ref p, .ref q'] _ E0 hr.in1 I.env0.in1 bt (.cons rfl (.cons rfl .nil)) q) fun r s' hq => ?_))
    cases r with
    | error e => exact False.elim hq
    | ok fl =>
      cases fl with
      | ret z =>
        obtain ⟨zv, H', I', rz, c, rfl, qz⟩ := I.after hq
        cases rz
        exact ⟨c, rfl, .bl (!c), H', I', rfl, qz⟩
      | next => exact False.elim hq
      | brk => exact False.elim hq
      | cont => exact False.elim hq
  have hop : compareOp .NotEq (.ref p) (.ref q') = richCompare .NotEq (.ref p) (.ref q') := rfl
  rw [hop]
  have sub : PySem.W.Looks (model X.prog X.w) s.heap (isInstance (.ref p) (.type "object")) true := J.type.andThen (PySem.W.looks_mroIn I.kIn hob)
  have body : wpAny (model X.prog X.w) X.A (call (.builtin "object.__ne__") [.ref p, .ref q']) (fun r s' => ∃ c, r = Value.bool c ∧ EP X pins σ Q (.bool c) s') X.xe s := by
    refine wpAny_call (codeAny_call_builtin PySem.F.cmp_object.ne.plain PySem.F.cmpEntry_ne (PySem.W.check_slot PySem.F.cmpKind_ne PySem.F.cmpSplit_ne sub (PySem.F.cmpArgs_ne _ _) ?_))
    unfold Builtin.«object.__ne__»
    have hu : X.A.in1.units < cLine := hr.in1.units0
    refine wpAny_bind (wpAny_of_eq (a := (Value.ref p, [Value.ref q'])) rfl ?_)
    dsimp only
    refine wpAny_bind (wpAny_cRoomFor hu ?_)
    refine wpAny_bind (wpAny_mono inner (fun r s' z => ?_) fun _ _ e => e)
    obtain ⟨c, rfl, qz⟩ := z
    refine wpAny_bind (wpAny_truthy_bool ?_)
    exact wpAny_pure ⟨!c, rfl, qz⟩
  have one : wpAny (model X.prog X.w) X.A (tryCompare (.ref p) "__ne__" (.ref q')) (fun r s' => ∃ c, r = some (Value.bool c) ∧ EP X pins σ Q (.bool c) s') X.xe s := by
    unfold tryCompare
    refine wpAny_bind (boundSlot I.kIn J hne PySem.F.cmp_object.ne (wpAny_mono body (fun r s' z => ?_) fun _ _ e => e))
    obtain ⟨c, rfl, qz⟩ := z
    exact wpAny_pure ⟨c, rfl, qz⟩
  unfold richCompare
  simp only [oneThing_ref]
  refine wpAny_holding (wpAny_bind (wpAny_cRoomFor hr.units0 ?_))
  refine wpAny_bind (J.type.here (wpAny_bind (J'.type.here ?_)))
  rw [if_neg (by simp)]
  refine wpAny_bind (wpAny_pure ?_)
  simp only [Bool.false_eq_true, if_false]
  refine wpAny_bind (wpAny_mono one (fun r s' z => ?_) fun _ _ e => e)
  obtain ⟨c, rfl, qz⟩ := z
  exact wpAny_pure qz

/-- o[i] op= e of a list: the item read -/
theorem pget_list : PGet X (rIxL X.K) := by
  intro pins s σ H x y v u Q I rx ry h
  obtain ⟨p, xs, i, z, rfl, rfl, hq, he, q⟩ := h
  cases rx
  obtain ⟨t, rfl⟩ := ry
  obtain ⟨its, r, pl, hz⟩ := I.list hq
  obtain ⟨j, h1, h2, h3, h4, h5⟩ := atI_get he
  obtain ⟨w', ew, rw'⟩ := r.get h2
  have hl := r.length
  have hn := line63
  by_cases h0 : 0 ≤ i
  · have hj : i.toNat = j := by
      rw [seqIndex_of h0 h5] at h1
      exact Option.some.inj h1
    exact wpAny_getItem_list pl.isList h0 (by omega) (by rw [hj]; simpa using ew) ⟨z, H, I, rw', q⟩
  · have hj : (i + (its.toArray.size : Int)).toNat = j := by
      rw [seqIndex_neg (by omega) h4] at h1
      rw [List.size_toArray, ← hl]
      exact Option.some.inj h1
    exact wpAny_getItem_list_neg pl.isList (by omega) (by rw [List.size_toArray] <;> omega) (by omega) (by rw [hj]; simpa using ew) ⟨z, H, I, rw', q⟩
/-- a walk over what may be of two kinds -/
theorem PI.two {tg it : Expr} {w1 w2 : TI} (h1 : PI X tg it w1) (h2 : PI X tg it w2) : PI X tg it (fun σ H R => w1 σ H R ∨ w2 σ H R) :=
  ⟨fun pins s σ H R I q => by
    rcases q with q | q
    · exact h1.run pins s σ H R I q
    · exact h2.run pins s σ H R I q⟩
end
end L2.K25

namespace L2.K25
open PySem PySem.Spec PyProof.Rows
section
variable {X : Cx} {CX : CXT} {k : Nat} {C g : Addr} {fd : FuncData} {ps : List Str} {sp : Sp} {a b : Expr} {ta tb : TE} {pos : Pos}
/-- o.m(k = e): an own method by one keyword -/
def tMethK (C : Addr) (m : Str) (sp : Sp) (E : XK) (ta tb : TE) : TE := fun σ H Q => ta σ H fun x H1 => ∃ (p dx : Addr) (fs : List (Str × V)), x = .ref p ∧ H1 p = some (.ins C dx fs) ∧ fs.lookup m = none ∧
  tb σ H1 fun y H2 => sp [x, y] H2 Q E
theorem pe_methK {m kw : Str} {apos kpos : Pos} {o e : Expr} {pl : Sem Bool} (c : Cls X.K C) (hm : Meth X.K C m g) (F : FnOk X.prog X.w X.K X.mg X.base CX k g fd ps sp) (hr : Room k X.A)
    (hb : ∀ (s : Shared) (u : Value) (ws : List Value), X.K.In s.heap → ws.length = 1 → BindsTo s fd ⟨[u] ++ [], [kw].zip ws⟩ (ps.zip (u :: ws))) (hx : Passes CX X E) (ho : PE X o ta) (he : PE X e tb)
    (ht : eval (.Call (.Attribute o m apos) [] [⟨some kw, e, kpos⟩] pos) X.env = (do
      let ov ← eval o X.env
      standAt apos.atName
      let (f, first) ← holding [ov] (getMethod ov m pl)
      callWith pos f first (backTo pos (starEach [] X.env)) (backToKw pos (keywordEach [⟨some kw, e, kpos⟩] X.env))) := by rfl)
    (hall : (backToKw pos (keywordEach [⟨some kw, e, kpos⟩] X.env)).all (·.1.isSome) = true := by rfl) (hks : (backToKw pos (keywordEach [⟨some kw, e, kpos⟩] X.env)).filterMap (·.1) = [kw] := by rfl)
    (hpl : ((backTo pos (starEach [] X.env)).any (·.1) || (backToKw pos (keywordEach [⟨some kw, e, kpos⟩] X.env)).any (·.1.isNone)) = false := by rfl) :
    PE X (.Call (.Attribute o m apos) [] [⟨some kw, e, kpos⟩] pos) (tMethK C m sp E ta tb) := by
  refine ⟨fun pins s σ H Q I h => ?_⟩
  refine PySem.W.methodCall_KW (pl := pl) (thn (ho.run pins s σ H _ I h) fun u s1 ⟨x, H1, I1, rx, p, dx, fs, ex, ea, l, q⟩ => ?_) ht
  subst ex
  obtain rfl : u = Value.ref p := rx
  refine getmeth_ok I1 ea c hm l ?_
  refine PySem.W.callWith_KW0 (h₀ := X.base) I1.ok.mod.kin hm.kp hall ?_ hpl
  have pk : PK X [⟨some kw, e, kpos⟩] (tCons tb tNil) := pk_cons he pk_nil
  refine thn (pk.run pos pins s1 σ H1 (fun zs H2 => match zs with | [y] => sp [.ref p, y] H2 Q E | _ => False) I1 q) fun ws s2 ⟨zs, H2, I2, rz, q2⟩ => ⟨I2.kIn, ?_⟩
  rw [hks]
  have key : ∀ (zs : List V) (ws : List Value), Vals zs ws → (match zs with | [y] => sp [.ref p, y] H2 Q E | _ => False) → ws.length = 1 ∧ Vals (V.ref p :: zs) (Value.ref p :: ws) ∧ sp (V.ref p :: zs) H2 Q E := by
    intro zs ws rz q2
    cases rz with
    | nil => exact False.elim q2
    | cons ry rt =>
      cases rt with
      | nil => exact ⟨rfl, .cons rfl (.cons ry .nil), q2⟩
      | cons _ _ => exact False.elim q2
  obtain ⟨hl, rv, q3⟩ := key zs ws rz q2
  refine wpAny_call (codeAny_mono (F.run X.A X.stack s2 H2 ⟨[Value.ref p] ++ [], [kw].zip ws⟩ (Value.ref p :: ws) (V.ref p :: zs) Q E hr I2.env0 (hb s2 _ ws I2.kIn hl) rv q3) fun r s' hq => ?_)
  cases r with
  | error er => exact hx pins σ H2 s2 er s' I2 hq
  | ok fl =>
    cases fl with
    | ret u => exact I2.after hq
    | next => exact False.elim hq
    | brk => exact False.elim hq
    | cont => exact False.elim hq
end
end L2.K25

namespace L2.K25
open PySem PySem.Spec PyProof.Rows
/-! The text by places. -/
def top (i : Nat) : Stmt := PySem.Challenge.pw_twochoosers_k25_whole_power_operators.main.body.getD i (.Pass ⟨0, 0, 0, 0⟩)
abbrev sUnlike : Stmt := inClass (top 7) 0
abbrev sValidName : Stmt := top 12
abbrev sIsPart : Stmt := top 13
abbrev sCheckNumber : Stmt := top 16
abbrev sCheckDifferent : Stmt := top 17
abbrev sSetRank : Stmt := top 19
abbrev sAllSets : Stmt := top 20
abbrev sIsSet : Stmt := top 21
abbrev sLiesIn : Stmt := top 22
abbrev sMinimalSets : Stmt := top 23
abbrev sMeet : Stmt := top 25
abbrev sMeetsAll : Stmt := top 26
abbrev sCheckLike : Stmt := top 27
abbrev sPowerInit : Stmt := inClass (top 28) 0
abbrev sPowerOutcomes : Stmt := inClass (top 28) 1
abbrev sPowerSets : Stmt := inClass (top 28) 2
abbrev sPowerEven : Stmt := inClass (top 28) 3
abbrev sPowerForces : Stmt := inClass (top 28) 4
abbrev sPowerCovers : Stmt := inClass (top 28) 5
abbrev sPowerEq : Stmt := inClass (top 28) 6
abbrev sPowerInvert : Stmt := inClass (top 28) 7
abbrev sPowerOr : Stmt := inClass (top 28) 8
abbrev sPowerAnd : Stmt := inClass (top 28) 9
abbrev sDualSets : Stmt := top 29
abbrev sLawStart : Stmt := top 31
abbrev sLawDraw : Stmt := top 32
abbrev sLawNames : Stmt := top 33
abbrev sLawSets : Stmt := top 34
abbrev sLawFamilies : Stmt := top 35
abbrev sLawForced : Stmt := top 36
abbrev sLawLeast : Stmt := top 37
abbrev sLawDual : Stmt := top 38
abbrev sLawTold : Stmt := top 39
abbrev sLawJoined : Stmt := top 40
abbrev sLawCovers : Stmt := top 41
abbrev sLawUnlike : Stmt := top 42
abbrev sLawForcesRight : Stmt := top 43
abbrev sLawSpots : Stmt := top 44
abbrev sLawApart : Stmt := top 45
abbrev sLaw : Stmt := top 46

/-! Sets of names on the heap -/
/-- v is a tuple of the texts c -/
def TS (H : Hp) (v : V) (c : List Str) : Prop := ∃ a, v = .ref a ∧ H a = some (.tup (c.map V.str))
abbrev TSs (H : Hp) : List V → List (List Str) → Prop := Paired (TS H)
/-- at a stands a list (a tuple) of tuples of texts -/
def LsA (H : Hp) (a : Addr) (F : List (List Str)) : Prop := ∃ vs, H a = some (.lst vs) ∧ TSs H vs F
def TsA (H : Hp) (a : Addr) (F : List (List Str)) : Prop := ∃ vs, H a = some (.tup vs) ∧ TSs H vs F
def LNm (H : Hp) (a : Addr) (N : List Str) : Prop := H a = some (.lst (N.map V.str))
def TNm (H : Hp) (a : Addr) (N : List Str) : Prop := H a = some (.tup (N.map V.str))
section
variable {H H' : Hp} {v : V} {c : List Str} {vs : List V} {F : List (List Str)} {a : Addr}
theorem TS.mono (s : Same H H') (h : TS H v c) : TS H' v c := let ⟨a, e, h⟩ := h; ⟨a, e, s _ _ h⟩
theorem TSs.mono (s : Same H H') (h : TSs H vs F) : TSs H' vs F := Paired.mapP h fun _ _ r => r.mono s
theorem LsA.mono (s : Same H H') (h : LsA H a F) : LsA H' a F := let ⟨vs, e, h⟩ := h; ⟨vs, s _ _ e, TSs.mono s h⟩
theorem TsA.mono (s : Same H H') (h : TsA H a F) : TsA H' a F := let ⟨vs, e, h⟩ := h; ⟨vs, s _ _ e, TSs.mono s h⟩
theorem TSs.len (h : TSs H vs F) : vs.length = F.length := Paired.length h
theorem TSs.get : ∀ {vs : List V} {F : List (List Str)} {i : Nat} {v : V}, TSs H vs F → vs[i]? = some v → ∃ c, F[i]? = some c ∧ TS H v c
  | _, _, _, _, .nil, e => by simp at e
  | _, _, 0, _, .cons r _, e => by simp at e; subst e; exact ⟨_, rfl, r⟩
  | _, _, i + 1, v, .cons _ t, e => by
    obtain ⟨c, h1, h2⟩ := TSs.get (i := i) (v := v) t (by simpa using e)
    exact ⟨c, by simpa using h1, h2⟩
theorem TSs.app : ∀ {vs ws : List V} {F G : List (List Str)}, TSs H vs F → TSs H ws G → TSs H (vs ++ ws) (F ++ G)
  | _, _, _, _, .nil, s => s
  | _, _, _, _, .cons r t, s => .cons r (TSs.app t s)
theorem TSs.snoc (h : TSs H vs F) (r : TS H v c) : TSs H (vs ++ [v]) (F ++ [c]) := TSs.app h (.cons r .nil)
theorem same_upd {p : Addr} {o : HO} (hp : H p = none) : Same H (upd H p o) := fun b u e => by
  rw [upd_ne (ne_of_none e hp)]; exact e
theorem Same.upd_after {p : Addr} {o : HO} (s : Same H H') (hp : H p = none) : Same H (upd H' p o) := fun b u e => by
  rw [upd_ne (ne_of_none e hp)]; exact s b u e
end

/-! the order of sets -/
def rk (c : List Str) : PyData := .tuple [.int (c.length : Nat), .tuple (c.map PyData.str)]
def rle : List Str → List Str → Bool := PySem.W.dataLe false rk
def tupD (c : List Str) : PySem.W.Tup Str := ⟨c⟩
theorem rk_datum (c : List Str) : rk c = PySem.W.Datum.toD (((c.length : Nat) : Int), tupD c) := rfl
theorem lt_rk (a b : List Str) : PySem.W.dataLt (rk a) (rk b) = if a.length = b.length then PySem.W.listLt a b else decide (a.length < b.length) := by
  rw [rk_datum, rk_datum, PySem.W.DatumOrd.lt_eq]
  show (if ((a.length : Nat) : Int) = ((b.length : Nat) : Int) then PySem.W.listLt a b else decide (((a.length : Nat) : Int) < ((b.length : Nat) : Int))) = _
  by_cases h : a.length = b.length
  · rw [if_pos (by omega), if_pos h]
  · rw [if_neg (by omega), if_neg h]
    exact decide_eq_decide.mpr (by omega)
theorem toks_str : ∀ {a b : List Str}, PySem.W.keyToksAll (a.map PyData.str) = PySem.W.keyToksAll (b.map PyData.str) → a = b
  | [], [], _ => rfl
  | [], b :: bs, h => by
    rw [List.map_nil, List.map_cons, PySem.W.toks_all_cons] at h
    simp [PySem.W.keyToksAll] at h
  | a :: as, [], h => by
    rw [List.map_nil, List.map_cons, PySem.W.toks_all_cons] at h
    simp [PySem.W.keyToksAll] at h
  | a :: as, b :: bs, h => by
    rw [List.map_cons, List.map_cons, PySem.W.toks_all_cons, PySem.W.toks_all_cons] at h
    simp only [PySem.W.keyToks, List.cons_append, List.nil_append, List.cons.injEq, Sum.inr.injEq, true_and] at h
    rw [toks_str h.2, PySem.W.str_of_cps h.1]
theorem rk_inj {a b : List Str} (h : PySem.W.keyToks (rk a) = PySem.W.keyToks (rk b)) : a = b := by
  unfold rk at h
  simp only [PySem.W.keyToks, PySem.W.keyToksAll, List.cons_append, List.nil_append, List.cons.injEq, true_and] at h
  have h2 := List.append_inj_left' h.2 rfl
  exact toks_str h2
theorem rk_ok : KM.Rk rle where
  total := (PySem.W.sortLe_total (PyProof.Rows.listOrd PyProof.Rows.itemOrd) false (fun c => PySem.W.keyToks (rk c))).total
  trans := (PySem.W.sortLe_total (PyProof.Rows.listOrd PyProof.Rows.itemOrd) false (fun c => PySem.W.keyToks (rk c))).trans
  anti := fun a b h1 h2 => by
    have e1 : (!(PyProof.Rows.listOrd PyProof.Rows.itemOrd).blt (PySem.W.keyToks (rk b)) (PySem.W.keyToks (rk a))) = true := h1
    have e2 : (!(PyProof.Rows.listOrd PyProof.Rows.itemOrd).blt (PySem.W.keyToks (rk a)) (PySem.W.keyToks (rk b))) = true := h2
    rw [Bool.not_eq_true'] at e1 e2
    exact rk_inj ((PyProof.Rows.listOrd PyProof.Rows.itemOrd).total _ _ e2 e1)
  len := fun a b h => by
    have h' : (!PySem.W.dataLt (rk b) (rk a)) = true := h
    rw [lt_rk] at h'
    by_cases e : b.length = a.length
    · omega
    · rw [if_neg e] at h'
      simp at h'
      omega
end L2.K25

namespace L2.K25
open PySem PySem.Spec PyProof.Rows
section
variable {prog : Program} {w : World} {A : Around} {E : Value → Shared → Prop} {s : Shared} {K : PySem.W.Frag} {mg : Str → Option Value} {f : Addr} {fd : FuncData}
theorem reads_strs {h : Heap} : ∀ {c : List Str} {its : List Value}, Vals (c.map V.str) its → ReadsAll h its (c.map PyData.str) []
  | [], _, .nil => .nil
  | x :: c, _, .cons r t => by
    obtain ⟨tk, rfl⟩ := r
    exact .cons (as := []) (.str x tk) (reads_strs t)
theorem reads_tup {h : Heap} {a : Addr} {c : List Str} {its : List Value} (ht : IsTup h a its.toArray) (r : Vals (c.map V.str) its) : Reads h (.ref a) (.tuple (c.map PyData.str)) [] := by
  obtain ⟨o, ho, hc, n, hd⟩ := ht
  exact .tuple ho hc hd (reads_strs r)
/-- a call of set_rank leaves all that stood, and gives the pair of a set's length and the set -/
theorem rank_call {a : Addr} {c : List Str} {its : List Value} (F : Fun K "set_rank" "set_rank" sSetRank f fd) (X : K.In s.heap) (nl : s.heap.NoLimit) (G : s.heap.Ns mainGlobals mg)
    (B : ∃ mb, s.heap.Ns builtinsNs mb ∧ ∀ x : Str, x ≠ "__name__" → mb x = bootBuiltins x) (hm : mg "len" = none) (hroom : A.depth < recursionLimit) (ht : IsTup s.heap a its.toArray) (hv : Vals (c.map V.str) its) (hz : its.length ≤ sizeLine) :
    wpAny (model prog w) A (call (.ref f) [.ref a]) (PySem.W.KeyPure (rk c) s) (fun _ _ => False) s := by
  obtain ⟨oc, od, kV, doc, pm, an, cdv, ct, osl, rfl, lk, hcd⟩ := F.ex
  have hl : c.length = its.length := by rw [← Paired.length hv, List.length_map]
  refine wpAny_call (Att.call_fn (binds := [("names", .ref a)]) X nl lk hcd hroom (BindsTo.of_eq rfl) rfl (fun s₁ IC => ?_) rfl rfl rfl)
  obtain ⟨h₁, tk₁, rfl⟩ := IC.toInCall.same
  have kp : ∀ b o, s.heap.get? b = some o → h₁.get? b = some o := IC.toInCall.keep
  have hn := IC.toInCall.ns
  have ht₁ : IsTup h₁ a its.toArray := by
    obtain ⟨o, ho, hc, n, hd⟩ := ht
    exact ⟨o, kp _ _ ho, hc, n, hd⟩
  obtain ⟨mb, hB, hb⟩ := B
  have ld : ∀ {Q : Value → Shared → Prop} {E' : Value → Shared → Prop} {A' : Around} {s' : Shared} {pos : Pos} {env : Env}, s'.heap.Ns env.locals (bindL env.kindOf [("names", .ref a)] fun _ => none) → env.scope.kind = .function → env.kindOf "names" = some .local →
      Q (.ref a) s' → wpAny (model prog w) A' (eval (.Name "names" pos) env) Q E' s' := fun hns hk hl hq =>
    wpAny_Name (wpAny_loadName_local hk hl hns (by show bindL _ _ _ _ = _; simp [bindL, hl]) hq) (by decide)
  show wpAny _ _ (execs (.Return (some (.Tuple [.Call (.Name "len" _) [.Name "names" _] [] _, .Name "names" _] 0 _)) _ :: []) _) _ _ _
  refine wpAny_execs_cons (wpAny_Return_some (wpAny_Tuple_spliced ?_))
  refine Calls.spliced_cons (wpAny_Call_Name_kw (Calls.Name_function_global rfl rfl (Calls.loadGlobal_builtin (G.keeps kp) hm (hB.keeps kp) ((hb "len" (by decide)).trans PySem.boot_len) ?_) (by decide)))
  refine PyProof.Rows.callWith_builtin1 (Calls.spliced_cons (ld hn rfl rfl (Calls.spliced_nil ?_))) rfl rfl
  refine PyProof.Rows.len_tuple ht₁ (by rw [List.size_toArray]; have := line63; omega) ?_
  refine Calls.spliced_cons (ld hn rfl rfl (Calls.spliced_nil ⟨by show 2 ≤ sizeLine; decide, ?_⟩))
  refine ⟨_, tk₁ + 1 + 1, rfl, fun b o e => Heap.get?_push_of_some _ (kp b o e), ?_⟩
  have e : (rk c) = .tuple [.int ((its.toArray.size : Nat) : Int), .tuple (c.map PyData.str)] := by unfold rk; rw [hl, List.size_toArray]
  rw [e]
  refine .tuple (Heap.get?_push_size _ rfl) rfl rfl ?_
  refine .cons (as := []) (.int _ _) (.cons (as := []) (bs := []) ?_ .nil)
  refine reads_tup (its := its) ?_ hv
  obtain ⟨o, ho, hc, n, hd⟩ := ht₁
  exact ⟨o, Heap.get?_push_of_some _ ho, hc, n, hd⟩
end
end L2.K25

namespace L2.K25
open PySem PySem.Spec PyProof.Rows
open PySem.W (EachIs)
/-! Sorted lists of sets: by set_rank, as pairs. -/
theorem alike_strs : ∀ (a b : List Str), PySem.W.alikeAll (a.map PyData.str) (b.map PyData.str) = true
  | [], _ => by simp [PySem.W.alikeAll]
  | _ :: _, [] => by simp [PySem.W.alikeAll]
  | x :: a, y :: b => by
    have := alike_strs a b
    simp [PySem.W.alikeAll, PySem.W.alike, this]
theorem alike_rk (a b : List Str) : PySem.W.alike (rk a) (rk b) = true := by
  have := alike_strs a b
  simp [rk, PySem.W.alikeAll, PySem.W.alike, this]
theorem depth_strs : ∀ (a : List Str), PyData.depthAll (a.map PyData.str) = 0
  | [] => by simp [PyData.depthAll]
  | x :: a => by
    have := depth_strs a
    simp [PyData.depthAll, PyData.depth, this]
theorem depth_rk (a : List Str) : (rk a).depth ≤ 8 := by
  have := depth_strs a
  simp [rk, PyData.depthAll, PyData.depth, this]
/-- the relation between values and sets, through the abstract heap -/
def RT (H : Hp) (v : Value) (c : List Str) : Prop := ∃ x, RelV x v ∧ TS H x c
section
variable {H : Hp}
theorem each_of {R : V → List Str → Prop} : ∀ {xs : List V} {us : List Value} {F : List (List Str)}, Vals xs us → Paired R xs F → EachIs (fun v c => ∃ x, RelV x v ∧ R x c) us F
  | _, _, _, .nil, .nil => .nil
  | _, _, _, .cons r t, .cons q p => .cons ⟨_, r, q⟩ (each_of t p)
theorem each_back {R : V → List Str → Prop} : ∀ {us : List Value} {F : List (List Str)}, EachIs (fun v c => ∃ x, RelV x v ∧ R x c) us F → ∃ xs, Vals xs us ∧ Paired R xs F
  | _, _, .nil => ⟨[], .nil, .nil⟩
  | _, _, .cons ⟨x, r, q⟩ t => by
    obtain ⟨xs, h1, h2⟩ := each_back t
    exact ⟨x :: xs, .cons r h1, .cons q h2⟩
end
section
variable {X : Cx} {pins : List (Addr × Obj)} {σ : L2.St} {H : Hp} {s : Shared}
theorem RT.tup (I : Inv X pins σ H s) {v : Value} {x : V} {c : List Str} (r : RelV x v) (h : TS H x c) : ∃ a its, v = .ref a ∧ IsTup s.heap a its.toArray ∧ Vals (c.map V.str) its ∧ its.length ≤ sizeLine := by
  obtain ⟨a, rfl, e⟩ := h
  cases r
  obtain ⟨z, its, r, t⟩ := I.hok a _ e
  exact ⟨a, its, rfl, t, r, by rw [← r.length]; exact z⟩
theorem isTup_keep {h h' : Heap} {a : Addr} {its : Array Value} (k : ∀ b o, h.get? b = some o → h'.get? b = some o) (x : IsTup h a its) : IsTup h' a its := by
  obtain ⟨o, e, c⟩ := x
  exact ⟨o, k _ _ e, c⟩
def rSortedRank (K : PySem.W.Frag) (f : Addr) : List V → List V → Hp → VK → Prop := fun vs zs H Q => ∃ (a : Addr) (xs : List V) (F : List (List Str)), vs = [V.ref a] ∧ zs = [V.ref f] ∧ SqL K H a xs ∧ TSs H xs F ∧
  ∀ (ys : List V) (p : Addr), TSs H ys (KM.srt rle F) → H p = none → Q (.ref p) (upd H p (.lst ys))
theorem cr_rank {f : Addr} {fd : FuncData} (F0 : Fun X.K "set_rank" "set_rank" sSetRank f fd) (hm : X.mg "len" = none) (hr : Room 1 X.A) : CallRK X (.builtin "sorted") [Str.ofString "key"] (rSortedRank X.K f) := by
  intro pins s σ H vs zs us ws Q I r rz h
  obtain ⟨a, xs, F, rfl, rfl, hs, ht, q⟩ := h
  obtain rfl := Vals.ref1 r
  obtain ⟨w1, rfl, e1⟩ := vals1 rz
  obtain rfl : w1 = Value.ref f := e1
  obtain ⟨its, rv, hl, hz⟩ := I.list hs
  have hF : F.length = xs.length := (Paired.length ht).symm
  refine PySem.W.sorted_key_data (b := false) (vs := its) (R := fun v c => ∃ x, RelV x v ∧ TS H x c) rk hl.isList (each_of rv ht) (PySem.W.AllAlike.of alike_rk) (PySem.W.Sortable.tuples fun _ => ⟨_, _, rfl⟩) (by rw [hF]; exact hz) (fun c _ => ?_)
    (PyProof.Rows.ksk_s1 _ _) (fun _ => PyProof.Rows.ksk_l1 _ _) (fun _ => PyProof.Rows.ksk_t1 _ _) (fun v c hv _ h tk kp => ?_) fun out c h' tk kp hn ho hlen eo => ?_
  · have := depth_rk c
    have := hr.units
    omega
  · obtain ⟨x, rx, tx⟩ := hv
    obtain ⟨b, cs, rfl, tp, vr, hz2⟩ := RT.tup I rx tx
    refine rank_call (s := { s with heap := h, toks := tk }) (mg := X.mg) F0 (I.kIn.keeps kp) (I.nolimit.keeps kp) ((I.ok.mod.glob.keeps I.bk).keeps kp) ?_ hm ?_ (isTup_keep kp tp) vr hz2
    · obtain ⟨mb, hB, hb⟩ := I.ok.mod.blt
      exact ⟨mb, (hB.keeps I.bk).keeps kp, hb⟩
    · exact hr.depth
  · obtain ⟨ys, hy, hp⟩ := each_back eo
    have hyl : ys.length ≤ sizeLine := by rw [hy.length, hlen, hF]; exact hz
    exact ⟨.ref _, upd H (s.heap.objs.size + 1) (.lst ys), I.laid (t' := tk) kp (Nat.le_succ _) ⟨hyl, out, c, hy, ho⟩, rfl, q ys _ hp (I.hok.fresh (Nat.le_succ _))⟩

/-- x is the pair of a set's length and the set -/
def PR (H : Hp) (x : V) (c : List Str) : Prop := ∃ p y, x = .ref p ∧ H p = some (.tup [.int (c.length : Nat), y]) ∧ TS H y c
def rSortedPairs (K : PySem.W.Frag) : List V → Hp → VK → Prop := fun vs H Q => ∃ (a : Addr) (xs : List V) (F : List (List Str)), vs = [V.ref a] ∧ SqL K H a xs ∧ Paired (PR H) xs F ∧
  ∀ (ys : List V) (p : Addr), Paired (PR H) ys (KM.srt rle F) → H p = none → Q (.ref p) (upd H p (.lst ys))
theorem cr_pairs {k : Nat} (hr : Room k X.A) : CallR X (.builtin "sorted") (rSortedPairs X.K) := by
  intro pins s σ H vs us Q I r h
  obtain ⟨a, xs, F, rfl, hs, ht, q⟩ := h
  obtain rfl := Vals.ref1 r
  obtain ⟨its, rv, hl, hz⟩ := I.list hs
  have hF : F.length = xs.length := (Paired.length ht).symm
  have e := each_of rv ht
  refine PySem.W.sorted_data (vs := its) (R := fun v c => ∃ x, RelV x v ∧ PR H x c) (enc := rk) hl.isList e (e.mono fun v c hv => ?_) (PySem.W.AllAlike.of alike_rk) (PySem.W.Sortable.tuples fun _ => ⟨_, _, rfl⟩) (by rw [hF]; exact hz) (fun c _ => ?_) fun out hlen eo => ?_
  · obtain ⟨x, rx, p, y, rfl, hp, ty⟩ := hv
    cases rx
    obtain ⟨z, its2, r2, o, ho, hc, n, hd⟩ := I.hok p _ hp
    obtain ⟨u1, u2, rfl, r1, ru⟩ := vals2 r2
    obtain ⟨t1, rfl⟩ := r1
    obtain ⟨b, cs, rfl, tp, vr, hz2⟩ := RT.tup I ru ty
    exact ⟨[], .tuple ho hc hd (.cons (as := []) (.int _ _) (.cons (as := []) (bs := []) (reads_tup tp vr) .nil))⟩
  · have := depth_rk c
    have := hr.units
    omega
  · obtain ⟨ys, hy, hp⟩ := each_back eo
    obtain ⟨ep, he'⟩ := PyProof.Rows.sortedAll_at s.heap its out.toArray
    have hyl : ys.length ≤ sizeLine := by rw [hy.length, hlen, hF]; exact hz
    exact ⟨.ref _, upd H (s.heap.objs.size + 1) (.lst ys), I.laid (t' := s.toks) (fun _ _ => PyProof.Rows.sortedAll_old) (Nat.le_succ _) ⟨hyl, out, ep, hy, by simpa using he'⟩, rfl, q ys _ hp (I.hok.fresh (Nat.le_succ _))⟩
end
end L2.K25

namespace L2.K25
open PySem PySem.Spec PyProof.Rows
/-! sorted of what collect gives: texts -/
section
variable {prog : Program} {w : World} {A : Around} {E : Value → Shared → Prop} {s : Shared}
theorem sorted_txt {x : Value} {P : List Str → Prop} {Q : Value → Shared → Prop}
    (hc : ∀ (E' : Value → Shared → Prop) (Q' : List Value → Shared → Prop), (∀ us (s1 : Shared) ss, (∀ b o, s.heap.get? b = some o → s1.heap.get? b = some o) → s1.gens = s.gens → s1.os = s.os → StrsAre us ss → ss.length < 64 → P ss → Q' us s1) →
      wpAny (model prog w) A.in1 (collect x) Q' E' s)
    (h : ∀ (s1 s' : Shared) p (out : List Value) c ss ys, (∀ b o, s.heap.get? b = some o → s1.heap.get? b = some o) → s1.gens = s.gens → s1.os = s.os → (∀ b o, s1.heap.get? b = some o → s'.heap.get? b = some o) → s'.gens = s1.gens → s'.os = s1.os → s1.heap.objs.size ≤ p → s'.heap.get? p = some (seqObj "list" out.toArray c) → StrsAre out ys →
      P ss → ys.Perm ss → ss.length < 64 → sortedS ys = true → Q (.ref p) s') :
    wpAny (model prog w) A (call (.builtin "sorted") [x]) Q E s := by
  refine Calls.call_function_entry kind_sorted plain_sorted entry_sorted (args_sorted1 _) ?_
  unfold Builtin.«sorted»
  refine wpAny_bind (m := checkCount "sorted" 1 1 _) (wpAny_pure ?_)
  refine wpAny_bind (hc _ _ fun us s1 ss k1 g1 o1 hS h64 hP => ?_)
  have hul : us.length = ss.length := hS.length
  refine wpAny_bind (wpAny_newList ?_ (by rw [hul, sizeLine_eq]; omega))
  have hoL : (s1.heap.push (seqObj "list" us.toArray 0)).get? s1.heap.objs.size = some (seqObj "list" us.toArray 0) := Heap.get?_push_size _ rfl
  refine wpAny_bind (wpAny_holding (wpAny_call_entry slot_list_sort ⟨_, hoL, rfl⟩ entry_list_sort
    (list_sort_treeK strKind_oneLt hoL hS.keysOf (fun v₁ v₂ rest e => keyKind_strs (by rw [← e]; exact hS)) (by rw [hul]; exact h64) fun st' hp hs => ⟨_, rfl, ?_⟩) (args_list_sort _)))
  obtain ⟨ys, b1, b2, b3⟩ := sorted_out_str hS hp hs
  obtain ⟨c, hat⟩ := sortedHeap_at (vs := us) (out := (arrOf st').map (·.2)) hoL
  refine wpAny_pure ⟨_, rfl, h s1 _ s1.heap.objs.size ((arrOf st').map (·.2)).toList c ss ys k1 g1 o1 (fun b u e => ?_) rfl rfl (Nat.le_refl _) (by rw [Array.toArray_toList]; exact hat) b1 hP b2 h64 b3⟩
  have q := e
  have hlt := Heap.lt_size q
  show (sortedHeap (s1.heap.push (seqObj "list" us.toArray 0)) s1.heap.objs.size us _).get? b = some u
  rw [sortedHeap_old (Nat.ne_of_lt hlt) (by rw [size_push']; exact Nat.lt_succ_of_lt hlt)]
  exact Heap.get?_push_of_some _ q
end
section
variable {X : Cx} {pins : List (Addr × Obj)} {σ : L2.St} {H : Hp} {s : Shared}
/-- the layer's end of it -/
theorem Inv.sortedTxt {Q : VK} {s1 s' : Shared} {p : Addr} {out : List Value} {c : Nat} {ys : List Str} (I0 : Inv X pins σ H s) (k0 : ∀ b o, s.heap.get? b = some o → s1.heap.get? b = some o) (g0 : s1.gens = s.gens) (o0 : s1.os = s.os) (k : ∀ b o, s1.heap.get? b = some o → s'.heap.get? b = some o) (g : s'.gens = s1.gens) (o : s'.os = s1.os)
    (hp : s1.heap.objs.size ≤ p) (hg : s'.heap.get? p = some (seqObj "list" out.toArray c)) (hi : StrsAre out ys) (hl : ys.length < 64) (q : H p = none → Q (.ref p) (upd H p (.lst (ys.map V.str)))) : EP X pins σ Q (.ref p) s' := by
  have hlen : (ys.map V.str).length ≤ sizeLine := by rw [List.length_map, sizeLine_eq]; omega
  have I : Inv X pins σ H s1 := by
    have J : Inv X pins σ H { s with heap := s1.heap, gens := s1.gens, drawn := s1.drawn, toks := s1.toks } := I0.call (ch := []) (Un.kept k0) (I0.hok.kept k0) (by rw [g0]; exact I0.bare) (fun _ z => nomatch z)
    have e : s1 = { s with heap := s1.heap, gens := s1.gens, drawn := s1.drawn, toks := s1.toks } := by
      cases s1
      cases s
      cases o0
      rfl
    rw [e]
    exact J
  have hn : H p = none := I.hok.fresh hp
  have J : Inv X pins σ (upd H p (.lst (ys.map V.str))) { s1 with heap := s'.heap, gens := s'.gens, drawn := s'.drawn, toks := s'.toks } :=
    I.call (ch := []) (Un.laid k hp hn) (I.hok.laid k hp ⟨hlen, out, c, vals_of_strs hi, hg⟩) (by rw [g]; exact I.bare) (fun _ z => nomatch z)
  have e : s' = { s1 with heap := s'.heap, gens := s'.gens, drawn := s'.drawn, toks := s'.toks } := by
    cases s'
    cases s1
    cases o
    rfl
  rw [e]
  exact ⟨.ref p, _, J, rfl, q hn⟩
/-- sorted(t), a tuple of texts -/
def rSortedST (K : PySem.W.Frag) : List V → Hp → VK → Prop := fun vs H Q => ∃ (a : Addr) (xs : List Str), vs = [V.ref a] ∧ SqT K H a (xs.map V.str) ∧ xs.length < 64 ∧
  ∀ (ys : List Str) (p : Addr), ys.Perm xs → sortedS ys = true → H p = none → Q (.ref p) (upd H p (.lst (ys.map V.str)))
theorem cr_sortedST : CallR X (.builtin "sorted") (rSortedST X.K) := by
  intro pins s σ H vs us Q I r h
  obtain ⟨a, xs, rfl, hs, h64, q⟩ := h
  obtain ⟨its, rv, ⟨o, ho, hc, n, hd⟩, hz⟩ := I.tuple hs
  rw [Vals.ref1 r]
  refine sorted_txt (P := fun ss => ss = xs) (fun E' Q' hq => ?_) fun s1 s' p out c ss ys k0 g0 o0 k g o hp hg hi e pm hl hso => ?_
  · refine wpAny_collect_seq a (.inr rfl) ho hc hd (fun h' hk => ?_) (by have := rv.length; rw [List.size_toArray]; omega)
    exact hq its { s with heap := h' } xs hk rfl rfl rv.strs h64 rfl
  · subst e
    exact Inv.sortedTxt I k0 g0 o0 k g o hp hg hi (by rw [pm.length_eq]; exact hl) (q ys p pm hso)
end
end L2.K25

namespace L2.K25
open PySem PySem.Spec PyProof.Rows
open PySem.Froz (SD sObj addTx tailTx TxOk)
/-! set(t) of a tuple of texts; sorted of it. -/
theorem addTx_perm (h : Int) (v : Value) (D : SD) : (addTx h v D).1.toList.Perm (D.1.toList ++ [(h, v)]) := by
  obtain ⟨es, ep, t⟩ := D
  have p1 := layNew_perm t es h v
  rw [Array.toList_push] at p1
  have key : ∀ t2 b, (tailTx ep (layNew t es h v).1 t2 b).1.toList.Perm (es.toList ++ [(h, v)]) := by
    intro t2 b
    unfold tailTx
    by_cases c : (!b && t2.tooFull) = true
    · rw [if_pos c]; exact (relayAll_perm _ _ _).trans p1
    · rw [if_neg c]; exact p1
  exact key _ _
/-- the table can be walked -/
def Tb (w : World) (t : SetTable) : Prop := Ris t.place.toList ∧ (w.params.followText "set-order" = true ∨ t.led = true)
theorem Tb.add {w : World} {D : SD} (h : Int) (v : Value) (g : Tb w D.2.2) : Tb w (addTx h v D).2.2 := by
  obtain ⟨es, ep, t⟩ := D
  obtain ⟨g1, g2⟩ := g
  have a1 := layNew_ris t es h v g1
  have a2 := layNew_led t es h v
  have key : ∀ t2 : SetTable, t2.place = (layNew t es h v).2.1.place → t2.led = (layNew t es h v).2.1.led → Tb w (tailTx ep (layNew t es h v).1 t2 (layNew t es h v).2.2.1).2.2 := by
    intro t2 e1 e2
    have g2' : w.params.followText "set-order" = true ∨ t2.led = true := g2.imp id fun z => by rw [e2, a2]; exact z
    unfold tailTx
    split
    · exact ⟨relayAll_ris _ _ _, g2'.imp id fun z => by rw [relayAll_led]; exact z⟩
    · exact ⟨by rw [e1]; exact a1, g2'⟩
  unfold addTx
  refine key _ ?_ ?_ <;> (split <;> rfl)

def kyT : Value → Str
  | .str x _ => x
  | _ => ⟨#[]⟩
/-- the set of texts at a: its members l, each once -/
def SX (P : Program) (w : World) (h : Heap) (a : Addr) (l : List Str) : Prop :=
  ∃ D : SD, h.get? a = some (sObj "set" D) ∧ TxOk P w D l ∧ l.Nodup ∧ (D.1.toList.map fun e => kyT e.2).Perm l ∧ (∀ e ∈ D.1.toList, ∃ x tk, e.2 = Value.str x tk) ∧ Tb w D.2.2
def ins (l : List Str) (k : Str) : List Str := if k ∈ l then l else k :: l
theorem mem_ins {l : List Str} {k x : Str} : x ∈ ins l k ↔ x ∈ l ∨ x = k := by
  unfold ins
  split
  · rename_i h
    exact ⟨.inl, fun z => z.elim id fun e => e ▸ h⟩
  · rw [List.mem_cons]; exact Or.comm
theorem ins_len (l : List Str) (k : Str) : (ins l k).length ≤ l.length + 1 := by
  unfold ins
  split
  · omega
  · simp
section
variable {P : Program} {w : World} {A : Around} {E : Value → Shared → Prop} {s : Shared} {a : Addr} {l : List Str}
theorem SX.at {h h' : Heap} (R : SX P w h a l) (k : ∀ o, h.get? a = some o → h'.get? a = some o) : SX P w h' a l := by
  obtain ⟨D, ho, r⟩ := R
  exact ⟨D, k _ ho, r⟩
theorem sx_new {h : Heap} (ho : h.get? a = some { cls := .type "set", dict := none, data := .set #[] 0 (.fresh 0 0 (!w.params.followText "set-order")) }) : SX P w h a [] := by
  refine ⟨(#[], 0, .fresh 0 0 (!w.params.followText "set-order")), ho, TxOk.nil (by rfl), .nil, .nil, fun e he => by simp at he, List.Pairwise.nil, ?_⟩
  show _ ∨ (!w.params.followText "set-order") = true
  cases w.params.followText "set-order"
  · exact .inr rfl
  · exact .inl rfl
theorem sx_add {k : Str} {u : Tok} {Q : Bool → Shared → Prop} (R : SX P w s.heap a l) (hb : l.length + 1 < scanBound)
    (h : ∀ b h', (∀ c, c ≠ a → ∀ o, s.heap.get? c = some o → h'.get? c = some o) → SX P w h' a (ins l k) → Q b { s with heap := h' }) : wpAny (model P w) A (setAddHashed a (.str k u) (hashStr w k)) Q E s := by
  obtain ⟨D, ho, F, nd, pm, st, tb⟩ := R
  by_cases hk : k ∈ l
  · obtain ⟨es, ep, t⟩ := D
    have hd : (sObj "set" (es, ep, t)).data = .set es ep t := rfl
    have hf : t.fits es.size = true := F.fit
    have hel : ElemsOf (strKind P w) es.toList := F.el
    have hsz : es.size = l.length := F.sz
    unfold setAddHashed setAddHashedIn
    refine wpAny_holding (wpAny_bind (wpAny_setState_of ho hd hf ?_))
    dsimp only
    rw [byScan_of rfl (by omega) hel]
    simp only [↓reduceIte]
    unfold setAddByScan
    refine wpAny_bind (wpAny_bind (wpAny_rule ?_))
    refine wpAny_bind (wpAny_setScan_of (knd := strKind P w) (k := k) (PySem.Froz.is_str k u) ho hd hf hel ?_)
    cases hr : List.findIdx? (fun e => (strKind P w).is k e.2) es.toList with
    | none =>
      obtain ⟨e, he, q⟩ := (F.mem k).mp hk
      have z := List.findIdx?_eq_none_iff.mp hr e he
      rw [q] at z
      cases z
    | some j =>
      dsimp only
      refine wpAny_pure (wpAny_pure ?_)
      refine h false s.heap (fun _ _ _ e => e) ⟨(es, ep, t), ho, ?_⟩
      unfold ins
      rw [if_pos hk]
      exact ⟨F, nd, pm, st, tb⟩
  · refine PySem.Froz.add_x ho F hk hb (h true _ (fun c hc o e => ?_) ⟨addTx (hashStr w k) (.str k u) D, PySem.Froz.get_upd _ ho rfl, ?_⟩)
    · exact (Heap.get?_update_ne _ _ _ _ hc).trans e
    · have p := addTx_perm (hashStr w k) (.str k u) D
      unfold ins
      rw [if_neg hk]
      refine ⟨PySem.Froz.add_ok u F, List.nodup_cons.mpr ⟨hk, nd⟩, ?_, fun e he => ?_, tb.add _ _⟩
      · refine (p.map _).trans ?_
        rw [List.map_append]
        exact List.perm_append_comm.trans (List.Perm.cons _ pm)
      · rcases List.mem_append.mp (p.mem_iff.mp he) with z | z
        · exact st e z
        · rw [List.mem_singleton.mp z]; exact ⟨k, u, rfl⟩
/-- the update's loop over a tuple's iterator -/
theorem sx_loop {I t : Addr} {its : Array Value} {xs : List Str} {S : Addr} {R : Result → Shared → Prop} {h0 : Heap} (hh : A.handled = none) (hSI : S ≠ I) (hSt : S ≠ t) (htI : t ≠ I) (hi : StrsAre its.toList xs) (hb : xs.length + 1 < scanBound)
    (ho : ∀ b o, h0.get? b = some o → b ≠ S ∧ b ≠ I) :
    ∀ (n i : Nat) (l : List Str) (s : Shared), xs.length - i = n → i ≤ xs.length → s.heap.IsTupleIter I t i → s.heap.IsTuple t its → (∀ b o, h0.get? b = some o → s.heap.get? b = some o) → SX P w s.heap S l → l.length ≤ i → (∀ x, x ∈ l ↔ x ∈ xs.take i) →
      (∀ h' tk l', (∀ b o, h0.get? b = some o → h'.get? b = some o) → SX P w h' S l' → l'.length ≤ xs.length → (∀ x, x ∈ l' ↔ x ∈ xs) → R (.ok (.ret .none)) { s with heap := h', toks := tk }) →
      codeAny (model P w) A (.builtin "set.update.loop" ⟨[.ref S, .ref I], []⟩) R s := by
  have hsz : its.size = xs.length := by rw [← hi.length, Array.length_toList]
  have W := Walks.tuple (prog := P) (w := w) (A := A.in1) hh I t htI its
  intro n
  induction n with
  | zero =>
    intro i l s hn hi' hit htp kp R0 hl hm hR
    have e : i = its.size := by omega
    refine codeAny_builtin F.entry_set_update_loop ?_
    rw [Around.under_plainId F.plain_set_update_loop _]
    show wpAny _ A.in1 (pyNext (.ref I) >>= _) _ _ s
    refine wpAny_bind (W.done s _ _ (by rw [← e]; exact ⟨hit, htp⟩) fun h' tk k => ?_)
    show wpAny _ A.in1 (ret Value.none) _ _ _
    refine wpAny_pure (hR h' tk l (fun b o q => k b o (fun z => (ho b o q).2 (List.mem_singleton.mp z)) (kp b o q)) (R0.at fun o q => k S o (fun z => hSI (List.mem_singleton.mp z)) q) (by omega) fun x => ?_)
    rw [hm x, List.take_of_length_le (by omega)]
  | succ n ih =>
    intro i l s hn hi' hit htp kp R0 hl hm hR
    have hlt : i < xs.length := by omega
    refine codeAny_builtin F.entry_set_update_loop ?_
    rw [Around.under_plainId F.plain_set_update_loop _]
    show wpAny _ A.in1 (pyNext (.ref I) >>= _) _ _ s
    refine wpAny_bind (W.item i s _ _ (by omega) ⟨hit, htp⟩ fun v h1 tk hv st k => ?_)
    have hx : ∃ u, v = Value.str xs[i] u := by
      have q : its.toList[i]? = some v := by rw [Array.getElem?_toList]; exact hv
      obtain ⟨u, hu⟩ := StrsAre.get hi i xs[i] (List.getElem?_eq_getElem hlt)
      rw [hu] at q
      exact ⟨u, (Option.some.inj q).symm⟩
    obtain ⟨u, rfl⟩ := hx
    have R1 : SX P w h1 S l := R0.at fun o q => k S o (fun z => hSI (List.mem_singleton.mp z)) q
    show wpAny _ A.in1 (holding [Value.str xs[i] u] (setAdd S (.str xs[i] u)) >>= _) _ _ _
    refine wpAny_bind (wpAny_holding ?_)
    unfold setAdd
    refine wpAny_holding (wpAny_bind ((strKind P w).pyHash (k := xs[i]) (PySem.Froz.is_str _ u) ?_))
    refine sx_add (s := { s with heap := h1, toks := tk + 1 }) R1 (by omega) fun b h2 k2 R2 => ?_
    refine wpAny_pure ⟨plainId_quiet F.plain_set_update_loop _, ih (i + 1) (ins l xs[i]) _ (by omega) hlt (st.1.at fun o q => k2 I (Ne.symm hSI) o q) ?_ (fun b o q => k2 b (ho b o q).1 o (k b o (fun z => (ho b o q).2 (List.mem_singleton.mp z)) (kp b o q))) R2 ?_ (fun x => ?_) fun h' tk' l' g1 g2 g3 g4 => hR h' tk' l' g1 g2 g3 g4⟩
    · obtain ⟨o, q1, q2⟩ := st.2
      exact ⟨o, k2 t (Ne.symm hSt) o q1, q2⟩
    · have := ins_len l xs[i]
      omega
    · rw [mem_ins, hm x, List.take_add_one, List.getElem?_eq_getElem hlt, List.mem_append]
      show _ ↔ _ ∨ x ∈ [xs[i]]
      rw [List.mem_singleton]
end
end L2.K25

namespace L2.K25
open PySem PySem.Spec PyProof.Rows
/-- a new set -/
abbrev nwSet (w : World) : Obj := { cls := .type "set", dict := none, data := .set #[] 0 (.fresh 0 0 (!w.params.followText "set-order")) }
section
variable {P : Program} {w : World} {A : Around} {E : Value → Shared → Prop} {s : Shared}
/-- what set.__init__ leaves -/
def SetDone (P : Program) (w : World) (s : Shared) (xs : List Str) (s2 : Shared) : Prop :=
  ∃ h' tk l, s2 = { s with heap := h', toks := tk } ∧ SX P w h' s.heap.objs.size l ∧ l.length ≤ xs.length ∧ (∀ x, x ∈ l ↔ x ∈ xs) ∧ ∀ b o, s.heap.get? b = some o → h'.get? b = some o
theorem set_init {t : Addr} {its : Array Value} {xs : List Str} {A' : Around} (hh : A'.handled = none) (ht : s.heap.IsTuple t its) (hi : StrsAre its.toList xs) (hb : xs.length + 1 < scanBound) :
    codeAny (model P w) A' (.call (.builtin "set.__init__") ⟨[.ref s.heap.objs.size, .ref t], []⟩) (wants (fun r s2 => r = .none ∧ SetDone P w s xs s2) E) { s with heap := s.heap.push (nwSet w) } := by
  have hS : (s.heap.push (nwSet w)).get? s.heap.objs.size = some (nwSet w) := Heap.get?_push_size _ rfl
  have hT : Shared.TypeIs { s with heap := s.heap.push (nwSet w) } (.ref s.heap.objs.size) "set" := ⟨_, hS, rfl⟩
  refine codeAny_call_builtin F.called_set.init.plain F.entry_set_init (check_set_init_1 hT ?_)
  obtain ⟨⟨oc, od, oD, osl⟩, hol, hcl, nl, hdl⟩ := ht
  simp only at hcl hdl
  subst hcl; subst hdl
  have htl : t < s.heap.objs.size := Heap.lt_size hol
  have hol' : (s.heap.push (nwSet w)).get? t = some { cls := .type "tuple", dict := od, data := .seq its nl, slots := osl } := Heap.get?_push_of_some _ hol
  have hl1 : (s.heap.push (nwSet w)).IsTuple t its := ⟨_, hol', rfl, nl, rfl⟩
  have hs1 := F.sub_tuple_set
  have hs2 := F.sub_tuple_frozenset
  have hne : (Value.type "tuple" == Value.type "dict") = false := by decide
  unfold Builtin.«set.__init__» noKeywords Builtin.Frozenset.updateFrom
  generalize hPI : pyIter = PI
  wp_walk
  subst hPI
  refine wpAny_pyIter_tuple hl1 (wpAny_bind (wpAny_runValue ?_))
  have hz : (s.heap.push (nwSet w)).objs.size = s.heap.objs.size + 1 := size_push' _ _
  rw [hz]
  refine sx_loop (P := P) (w := w) (S := s.heap.objs.size) (I := s.heap.objs.size + 1) (t := t) (its := its) (xs := xs) (h0 := s.heap) (by simp [hh]) (Nat.ne_of_lt (Nat.lt_succ_self _)) (Nat.ne_of_gt htl) (Nat.ne_of_lt (Nat.lt_succ_of_lt htl)) hi hb (fun b o q => ?_) (xs.length - 0) 0 [] _ rfl (Nat.zero_le _) ?_ ?_ ?_ ?_ (Nat.le_refl _) (fun x => by simp) ?_
  · have := Heap.lt_size q
    exact ⟨Nat.ne_of_lt this, Nat.ne_of_lt (Nat.lt_succ_of_lt this)⟩
  · have e := Heap.get?_push_size (s.heap.push (nwSet w)) (o := { cls := .type "tuple_iterator", data := .fields #[.ref t, .int 0 0] }) rfl
    rw [hz] at e
    exact ⟨_, e, rfl, rfl⟩
  · exact hl1.push _
  · exact fun b o q => Heap.get?_push_of_some _ (Heap.get?_push_of_some _ q)
  · exact sx_new (Heap.get?_push_of_some _ hS)
  · intro h' tk l' k R hl hm
    refine wpAny_pure ?_
    show wpAny _ _ (ret Value.none) _ _ _
    exact wpAny_pure ⟨rfl, h', tk, l', rfl, R, hl, hm, k⟩
theorem call_setT {t : Addr} {its : Array Value} {xs : List Str} {Q : Value → Shared → Prop} (hh : A.handled = none) (ht : s.heap.IsTuple t its) (hi : StrsAre its.toList xs) (hb : xs.length + 1 < scanBound)
    (h : ∀ s2, SetDone P w s xs s2 → Q (.ref s.heap.objs.size) s2) : wpAny (model P w) A (call (.type "set") [.ref t]) Q E s := by
  obtain ⟨c, tl, hmro⟩ := F.called_set.mro
  have hmade := F.called_set.made
  have hsub := F.called_set.sub
  refine wpAny_call (codeAny_of_tree ?_)
  show wpAny _ _ (callAny (.type "set") _) _ _ _
  refine wpAny_pure ⟨Code.quiet_builtin _ (by decide +kernel), codeAny_builtin F.entry_type_call ?_⟩
  rw [Around.under_plain (weight_type_call_type "set" [.ref t] []) rfl]
  have h1 := F.called_set.notType
  have h2 := F.called_set.canCreate
  have hct := F.typeCall_set_1 (.ref t)
  repeat (any_goals (first | assumption | wp_step))
  refine codeAny_mono (code_set_led1 (.ref t) (E := E) (Q₁ := fun o s1 => o = .ref s.heap.objs.size ∧ s1 = { s with heap := s.heap.push (nwSet w) }) ⟨rfl, rfl⟩) fun r s1 hr => ?_
  cases r with
  | error e => exact hr
  | ok fl =>
    cases fl with
    | ret o =>
      obtain ⟨rfl, rfl⟩ := hr
      have hS : (s.heap.push (nwSet w)).get? s.heap.objs.size = some (nwSet w) := Heap.get?_push_size _ rfl
      have hT : Shared.TypeIs { s with heap := s.heap.push (nwSet w) } (.ref s.heap.objs.size) "set" := ⟨_, hS, rfl⟩
      have hli := F.called_set.init.lookup
      have hbi := F.called_set.init.bind (.ref s.heap.objs.size)
      repeat (any_goals (first | assumption | wp_step))
      refine codeAny_mono (set_init (E := E) (P := P) (w := w) (xs := xs) (by simp [hh]) ht hi hb) fun r2 s2 hr2 => ?_
      cases r2 with
      | error e => exact hr2
      | ok f2 =>
        cases f2 with
        | ret r =>
          obtain ⟨rfl, hd⟩ := hr2
          repeat (any_goals (first | assumption | wp_step))
          exact h _ hd
        | _ => exact hr2.elim
    | _ => exact hr.elim
end
/-! over the layer -/
def SXO (P : Program) (w : World) (a : Addr) (l : List Str) : HO := .ext fun h => SX P w h a l
theorem sxo_new {P : Program} {w : World} {H : Hp} {h : Heap} {a : Addr} {l : List Str} (R : SX P w h a l) : ObjOk P w H h a (SXO P w a l) :=
  ⟨R, ⟨_, R.choose_spec.1⟩, fun _ _ p k => p.at k⟩
def rSetT (X : Cx) : List V → Hp → VK → Prop := fun vs H Q => ∃ (a : Addr) (xs : List Str), vs = [V.ref a] ∧ SqT X.K H a (xs.map V.str) ∧ xs.length < 64 ∧
  ∀ p l, l.length ≤ xs.length → (∀ x, x ∈ l ↔ x ∈ xs) → H p = none → Q (.ref p) (upd H p (SXO X.prog X.w p l))
def rSortedX (X : Cx) : List V → Hp → VK → Prop := fun vs H Q => ∃ (a : Addr) (l : List Str), vs = [V.ref a] ∧ H a = some (SXO X.prog X.w a l) ∧ l.length < 64 ∧
  ∀ (ys : List Str) (p : Addr), ys.Perm l → l.Nodup → sortedS ys = true → H p = none → Q (.ref p) (upd H p (.lst (ys.map V.str)))
section
variable {X : Cx}
theorem cr_setT (hc : X.calm = true) : CallR X (.type "set") (rSetT X) := by
  intro pins s σ H xs us Q I r h
  obtain ⟨t, ss, rfl, hl, hf, q⟩ := h
  rw [Vals.ref1 r]
  obtain ⟨its, rv, ht, hz⟩ := I.tuple hl
  have hn : H s.heap.objs.size = none := I.hok.fresh (Nat.le_refl _)
  refine call_setT (P := X.prog) (w := X.w) (xs := ss) (I.ok.hd hc) ht (by simpa using rv.strs) (by have : scanBound = 4096 := rfl; omega) fun s2 hd => ?_
  obtain ⟨h', tk, l, rfl, R, hl, hm, k⟩ := hd
  exact ⟨.ref s.heap.objs.size, upd H s.heap.objs.size (SXO X.prog X.w s.heap.objs.size l), I.laid (t' := tk) k (Nat.le_refl _) (sxo_new R), rfl, q _ l hl hm hn⟩
theorem strs_keys : ∀ (l : List Value), (∀ v ∈ l, ∃ x tk, v = Value.str x tk) → StrsAre l (l.map kyT)
  | [], _ => .nil
  | v :: l, h => by
    obtain ⟨x, tk, rfl⟩ := h v List.mem_cons_self
    exact .cons x tk (strs_keys l fun u hu => h u (List.mem_cons_of_mem _ hu))
theorem cr_sortedX (hc : X.calm = true) : CallR X (.builtin "sorted") (rSortedX X) := by
  intro pins s σ H xs us Q I r h
  obtain ⟨a, l, rfl, ha, hl, q⟩ := h
  obtain ⟨D, ho, F, nd, pm, st, tb⟩ := (I.hok a _ ha).1
  rw [Vals.ref1 r]
  refine sorted_txt (P := fun ss => ss.Perm l) (fun E' Q' hq => ?_) fun s1 s' p out c ss ys k0 g0 o0 k g o hp hg hi e pm' hl' hso => ?_
  · have hsz : D.1.size = l.length := F.sz
    refine collect_set (A := X.A.in1) (t := D.2.2) (I.ok.hd hc) ⟨_, ho, rfl, rfl⟩ F.fit (by have : scanBound = 4096 := rfl; omega) tb.1 tb.2 fun s1 us k hz g1 o1 pu => ?_
    have hv : ∀ v ∈ us, ∃ x tk, v = Value.str x tk := fun v hv => by
      obtain ⟨e, he, q⟩ := List.mem_map.mp (pu.mem_iff.mp hv)
      obtain ⟨x, tk, z⟩ := st e he
      exact ⟨x, tk, by rw [← q]; exact z⟩
    have pk : (us.map kyT).Perm l := by
      have := pu.map kyT
      rw [List.map_map] at this
      exact this.trans pm
    exact hq us s1 (us.map kyT) k g1 o1 (strs_keys us hv) (by rw [pk.length_eq]; exact hl) pk
  · exact Inv.sortedTxt I k0 g0 o0 k g o hp hg hi (by rw [pm'.length_eq]; exact hl') (q ys p (pm'.trans e) nd hso)
end
end L2.K25

namespace L2.K25
open PySem PySem.Spec PyProof.Rows
/-! Facts of the module's top; what a def brings; comparisons of data; walks. -/
def letters : Str := "abcdefghijklmnopqrstuvwxyz"
def digits : Str := "0123456789"
structure Txt (K : PySem.W.Frag) (mg : Str → Option Value) where
  tL : Tok
  tD : Tok
  tN : Tok
  tM : Tok
  b_len : mg "len" = none
  b_sorted : mg "sorted" = none
  b_tuple : mg "tuple" = none
  b_list : mg "list" = none
  b_set : mg "set" = none
  b_any : mg "any" = none
  b_all : mg "all" = none
  b_isinstance : mg "isinstance" = none
  b_range : mg "range" = none
  b_int : mg "int" = none
  b_abs : mg "abs" = none
  b_str : mg "str" = none
  b_bool : mg "bool" = none
  m_LETTERS : mg "LETTERS" = some (.str letters tL)
  m_DIGITS : mg "DIGITS" = some (.str digits tD)
  m_LONGEST : mg "LONGEST" = some (.int 6 tN)
  m_MOST_OUTCOMES : mg "MOST_OUTCOMES" = some (.int 6 tM)
/-- a def of the module: where it stands, how it is called, its promise -/
structure Df (P : Program) (w : World) (K : PySem.W.Frag) (mg : Str → Option Value) (base : Heap) (CX : CXT) (k : Nat) (x : Str) (st : Stmt) (ps : List Str) (sp : Sp) where
  f : Addr
  fd : FuncData
  F : Fun K x x st f fd
  m : mg x = some (.ref f)
  kp : PySem.W.keepIn K (.ref f) = true
  b : Binds K fd ps []
  ok : FnOk P w K mg base CX k f fd ps sp

/-! comparisons -/
def dT (c : List Str) : PyData := .tuple (c.map PyData.str)
def dN (c : List Str) : PyData := .list (c.map PyData.str)
def dL (F : List (List Str)) : PyData := .list (F.map dT)
def dTT (F : List (List Str)) : PyData := .tuple (F.map dT)
/-- such data may be compared -/
def shp (d : PyData) : Bool := d.plain && decide (d.depth ≤ 60)
def rEqP (K : PySem.W.Frag) : R2 := fun x y H Q => ∃ d e, Dp K H x d ∧ Dp K H y e ∧ shp d = true ∧ shp e = true ∧ Q (.bl (PyData.eqv d e)) H
def rNeP (K : PySem.W.Frag) : R2 := fun x y H Q => ∃ d e, Dp K H x d ∧ Dp K H y e ∧ shp d = true ∧ shp e = true ∧ Q (.bl (!PyData.eqv d e)) H
theorem shp_of {d : PyData} (h : shp d = true) : d.plain = true ∧ d.depth ≤ 60 := by
  obtain ⟨a, b⟩ := Bool.and_eq_true_iff.mp h
  exact ⟨a, of_decide_eq_true b⟩
section
variable {X : Cx}
theorem op_eqP (hu : X.A.units + 64 < cLine) : OpR X (compareOp .Eq) (rEqP X.K) := by
  intro pins s σ H x y v u Q I rx ry h
  obtain ⟨d, e, hd, he, sd, se, q⟩ := h
  obtain ⟨as, r1⟩ := Dp.reads I d x v hd rx
  obtain ⟨bs, r2⟩ := Dp.reads I e y u he ry
  exact PySem.SeqAt.eq_plain r1 r2 (shp_of sd).1 (shp_of se).1 (by have := (shp_of sd).2; have := Nat.min_le_left d.depth e.depth; omega) ⟨.bl _, H, I, rfl, q⟩
theorem op_neP (hu : X.A.units + 64 < cLine) : OpR X (compareOp .NotEq) (rNeP X.K) := by
  intro pins s σ H x y v u Q I rx ry h
  obtain ⟨d, e, hd, he, sd, se, q⟩ := h
  obtain ⟨as, r1⟩ := Dp.reads I d x v hd rx
  obtain ⟨bs, r2⟩ := Dp.reads I e y u he ry
  exact PySem.SeqAt.ne_plain r1 r2 (shp_of sd).1 (shp_of se).1 (by have := (shp_of sd).2; have := Nat.min_le_left d.depth e.depth; omega) ⟨.bl _, H, I, rfl, q⟩
end
theorem layT : ∀ c : List Str, PyData.plainAll (c.map PyData.str) = true
  | [] => by simp [PyData.plainAll]
  | x :: c => by simp [PyData.plainAll, PyData.plain, layT c]
theorem depS : ∀ c : List Str, PyData.depthAll (c.map PyData.str) = 0 := depth_strs
theorem layF : ∀ F : List (List Str), PyData.plainAll (F.map dT) = true
  | [] => by simp [PyData.plainAll]
  | x :: c => by simp [PyData.plainAll, dT, PyData.plain, layT x, layF c]
theorem depF : ∀ F : List (List Str), PyData.depthAll (F.map dT) ≤ 1
  | [] => by simp [PyData.depthAll]
  | x :: c => by
    have := depF c
    simp only [List.map_cons, PyData.depthAll, dT, PyData.depth, depS x]
    omega
theorem sh_T (c : List Str) : shp (dT c) = true := by simp [shp, dT, PyData.plain, layT c, PyData.depth, depS c]
theorem sh_N (c : List Str) : shp (dN c) = true := by simp [shp, dN, PyData.plain, layT c, PyData.depth, depS c]
theorem sh_L (F : List (List Str)) : shp (dL F) = true := by
  have := depF F
  simp [shp, dL, PyData.plain, layF F, PyData.depth]
  omega
theorem sh_TT (F : List (List Str)) : shp (dTT F) = true := by
  have := depF F
  simp [shp, dTT, PyData.plain, layF F, PyData.depth]
  omega
theorem eqS : ∀ a b : List Str, PyData.eqvAll (a.map PyData.str) (b.map PyData.str) = decide (a = b) := fun a b => PySem.W.eqvAll_map a b
theorem eq_T (a b : List Str) : PyData.eqv (dT a) (dT b) = decide (a = b) := by
  unfold dT
  rw [PyData.eqv, eqS]
theorem eq_N (a b : List Str) : PyData.eqv (dN a) (dN b) = decide (a = b) := by
  unfold dN
  rw [PyData.eqv, eqS]
theorem eqF : ∀ a b : List (List Str), PyData.eqvAll (a.map dT) (b.map dT) = decide (a = b)
  | [], [] => by simp [PyData.eqvAll]
  | [], _ :: _ => by simp [PyData.eqvAll]
  | _ :: _, [] => by simp [PyData.eqvAll]
  | x :: xs, y :: ys => by
    rw [List.map_cons, List.map_cons, PyData.eqvAll, eq_T, eqF xs ys, ← Bool.decide_and]
    exact decide_eq_decide.mpr (by rw [List.cons.injEq])
theorem eq_L (a b : List (List Str)) : PyData.eqv (dL a) (dL b) = decide (a = b) := by
  unfold dL
  rw [PyData.eqv, eqF]
theorem eq_TT (a b : List (List Str)) : PyData.eqv (dTT a) (dTT b) = decide (a = b) := by
  unfold dTT
  rw [PyData.eqv, eqF]
section
variable {K : PySem.W.Frag} {H : Hp} {v u : V} {c d : List Str} {F G : List (List Str)} {a b : Addr} {vs : List V} {Q : VK}
theorem dp_strs : ∀ c : List Str, DpAll K H (c.map V.str) (c.map PyData.str)
  | [] => .nil
  | x :: c => .cons (.str x) (dp_strs c)
theorem dp_T (h : TS H v c) : Dp K H v (dT c) := by
  obtain ⟨a, rfl, e⟩ := h
  exact .tup (.of e) (dp_strs c)
theorem dp_Ts : ∀ {vs : List V} {F : List (List Str)}, TSs H vs F → DpAll K H vs (F.map dT)
  | _, _, .nil => .nil
  | _, _, .cons r t => .cons (dp_T r) (dp_Ts t)
theorem dp_L (h : LsA H a F) : Dp K H (.ref a) (dL F) := by
  obtain ⟨vs, e, t⟩ := h
  exact .lst (.of e) (dp_Ts t)
theorem dp_TT (h : TsA H a F) : Dp K H (.ref a) (dTT F) := by
  obtain ⟨vs, e, t⟩ := h
  exact .tup (.of e) (dp_Ts t)
theorem dp_N (h : LNm H a c) : Dp K H (.ref a) (dN c) := .lst (.of h) (dp_strs c)
theorem TNm.ts (h : TNm H a c) : TS H (.ref a) c := ⟨a, rfl, h⟩
/-- x == y -/
theorem eqT (h1 : TS H v c) (h2 : TS H u d) (q : Q (.bl (decide (c = d))) H) : rEqP K v u H Q := ⟨_, _, dp_T h1, dp_T h2, sh_T c, sh_T d, by rw [eq_T]; exact q⟩
theorem neT (h1 : TS H v c) (h2 : TS H u d) (q : Q (.bl (!decide (c = d))) H) : rNeP K v u H Q := ⟨_, _, dp_T h1, dp_T h2, sh_T c, sh_T d, by rw [eq_T]; exact q⟩
theorem eqN (h1 : LNm H a c) (h2 : LNm H b d) (q : Q (.bl (decide (c = d))) H) : rEqP K (.ref a) (.ref b) H Q := ⟨_, _, dp_N h1, dp_N h2, sh_N c, sh_N d, by rw [eq_N]; exact q⟩
theorem eqLs (h1 : LsA H a F) (h2 : LsA H b G) (q : Q (.bl (decide (F = G))) H) : rEqP K (.ref a) (.ref b) H Q := ⟨_, _, dp_L h1, dp_L h2, sh_L F, sh_L G, by rw [eq_L]; exact q⟩
theorem eqTs (h1 : TsA H a F) (h2 : TsA H b G) (q : Q (.bl (decide (F = G))) H) : rEqP K (.ref a) (.ref b) H Q := ⟨_, _, dp_TT h1, dp_TT h2, sh_TT F, sh_TT G, by rw [eq_TT]; exact q⟩
theorem neTs (h1 : TsA H a F) (h2 : TsA H b G) (q : Q (.bl (!decide (F = G))) H) : rNeP K (.ref a) (.ref b) H Q := ⟨_, _, dp_TT h1, dp_TT h2, sh_TT F, sh_TT G, by rw [eq_TT]; exact q⟩
/-- x in t, a text in a row of texts -/
theorem inV_str (x : Str) : ∀ c : List Str, inV (.str x) (c.map V.str) = decide (x ∈ c)
  | [] => rfl
  | y :: c => by
    have ih := inV_str x c
    unfold inV at ih ⊢
    rw [List.map_cons, List.any_cons, ih]
    show (decide (y = x) || decide (x ∈ c)) = decide (x ∈ y :: c)
    rw [Bool.eq_iff_iff]
    simp only [Bool.or_eq_true, decide_eq_true_eq, List.mem_cons]
    exact ⟨fun h => h.imp Eq.symm id, fun h => h.imp Eq.symm id⟩
theorem flat_strs (c : List Str) : (c.map V.str).all flatV = true := by
  rw [List.all_map, List.all_eq_true]
  intro _ _
  rfl
theorem inT {x : Str} (h : TS H v c) (q : Q (.bl (decide (x ∈ c))) H) : rIn K false (.str x) v H Q := by
  obtain ⟨a, rfl, e⟩ := h
  exact ⟨a, _, rfl, .inr (.of e), rfl, flat_strs c, by rw [inV_str]; exact q⟩
theorem notInT {x : Str} (h : TS H v c) (q : Q (.bl (!decide (x ∈ c))) H) : rIn K true (.str x) v H Q := by
  obtain ⟨a, rfl, e⟩ := h
  exact ⟨a, _, rfl, .inr (.of e), rfl, flat_strs c, by rw [inV_str]; exact q⟩
theorem inN {x : Str} (h : LNm H a c) (q : Q (.bl (decide (x ∈ c))) H) : rIn K false (.str x) (.ref a) H Q := ⟨a, _, rfl, .inl (.of h), rfl, flat_strs c, by rw [inV_str]; exact q⟩
end

/-! walks of a comprehension: H1 what stood, D the new list -/
def CI (H1 : Hp) (D : Addr) (Res : Nat → Hp → List V → Prop) (i : Nat) (H : Hp) : Prop := Same H1 H ∧ ∃ acc, H D = some (.lst acc) ∧ acc.length ≤ i ∧ Res i H acc
section
variable {H1 H4 : Hp} {D : Addr} {Res : Nat → Hp → List V → Prop} {i : Nat} {acc : List V} {y : V}
theorem CI.start (hD : H1 D = none) (r0 : Res 0 (upd H1 D (.lst [])) []) : CI H1 D Res 0 (upd H1 D (.lst [])) := ⟨same_upd hD, [], upd_same, Nat.le_refl _, r0⟩
theorem CI.more (hD : H1 D = none) (hz : i < sizeLine) (s : Same H1 H4) (e : H4 D = some (.lst acc)) (hl : acc.length ≤ i) (r : Res (i + 1) (upd H4 D (.lst (acc ++ [y]))) (acc ++ [y])) :
    ∃ acc, H4 D = some (.lst acc) ∧ acc.length < sizeLine ∧ CI H1 D Res (i + 1) (upd H4 D (.lst (acc ++ [y]))) :=
  ⟨acc, e, Nat.lt_of_le_of_lt hl hz, Same.upd_after s hD, _, upd_same, by rw [List.length_append, List.length_singleton]; omega, r⟩
theorem CI.skip (s : Same H1 H4) (e : H4 D = some (.lst acc)) (hl : acc.length ≤ i) (r : Res (i + 1) H4 acc) : CI H1 D Res (i + 1) H4 := ⟨s, acc, e, by omega, r⟩
/-- a tuple of texts stands when a list changes -/
theorem TS.updL {H : Hp} {D : Addr} {v : V} {c : List Str} {xs ys : List V} (e : H D = some (.lst xs)) (h : TS H v c) : TS (upd H D (.lst ys)) v c := by
  obtain ⟨a, rfl, q⟩ := h
  exact ⟨a, rfl, by rw [upd_ne (ne_of q e (by intro z; cases z))]; exact q⟩
theorem TSs.updL {H : Hp} {D : Addr} {vs : List V} {F : List (List Str)} {xs ys : List V} (e : H D = some (.lst xs)) (h : TSs H vs F) : TSs (upd H D (.lst ys)) vs F := Paired.mapP h fun _ _ r => r.updL e
theorem TSs.take : ∀ {H : Hp} {vs : List V} {F : List (List Str)} (n : Nat), TSs H vs F → TSs H (vs.take n) (F.take n)
  | _, _, _, 0, _ => .nil
  | _, _, _, _ + 1, .nil => .nil
  | _, _, _, n + 1, .cons r t => .cons r (TSs.take n t)
end
theorem take_snoc {α : Type} {l : List α} {i : Nat} {x : α} (h : l[i]? = some x) : l.take (i + 1) = l.take i ++ [x] := by
  rw [List.take_add_one, h]
  rfl
theorem map_at {α β : Type} {f : α → β} {l : List α} {i : Nat} {y : β} (h : (l.map f)[i]? = some y) : ∃ x, l[i]? = some x ∧ y = f x := by
  rw [List.getElem?_map] at h
  cases e : l[i]? with
  | none => rw [e] at h; cases h
  | some x => rw [e] at h; exact ⟨x, rfl, (Option.some.inj h).symm⟩
/-! rules with the written part named: for the blocks of comprehensions -/
section
variable {X : Cx} (K : PySem.W.Frag) (hK : X.K = K)
include hK
theorem op_inK : OpR X (compareOp .In) (rIn K false) := hK ▸ op_in_seq
theorem op_notInK : OpR X (compareOp .NotIn) (rIn K true) := hK ▸ op_notIn_seq
theorem op_eqPK (hu : X.A.units + 64 < cLine) : OpR X (compareOp .Eq) (rEqP K) := hK ▸ op_eqP hu
theorem op_nePK (hu : X.A.units + 64 < cLine) : OpR X (compareOp .NotEq) (rNeP K) := hK ▸ op_neP hu
theorem op_catAK : OpR X (binaryOp .Add) (rCatA K) := hK ▸ op_catA
theorem ix_listK : IxR X (rIxL K) := hK ▸ ix_list
theorem ix_tupK : IxR X (rIxT K) := hK ▸ ix_tup
theorem pi_listK {tg e : Expr} {t : TE} (h : PE X e t) : PI X tg e (iList K t) := hK ▸ pi_list h
theorem pi_tupK {tg e : Expr} {t : TE} (h : PE X e t) : PI X tg e (iTup K t) := hK ▸ pi_tup h
theorem call_lenK : CallR X (.builtin "len") (fun xs H Q => ∃ p ys, xs = [.ref p] ∧ (SqL K H p ys ∨ SqT K H p ys) ∧ Q (.int ys.length) H) := hK ▸ call_len_seq
theorem call_listK : CallR X (.type "list") (fun xs H Q => ∃ p ys, xs = [.ref p] ∧ (SqL K H p ys ∨ SqT K H p ys) ∧ ∀ l, H l = none → Q (.ref l) (upd H l (.lst ys))) := hK ▸ call_list_of
theorem call_tupleK : CallR X (.type "tuple") (fun xs H Q => ∃ p ys, xs = [.ref p] ∧ ((SqL K H p ys ∧ ∀ l, H l = none → Q (.ref l) (upd H l (.tup ys))) ∨ (SqT K H p ys ∧ Q (.ref p) H))) := hK ▸ call_tuple_of
theorem cr_rankK {f : Addr} {fd : FuncData} (F0 : Fun K "set_rank" "set_rank" sSetRank f fd) (hm : X.mg "len" = none) (hr : Room 1 X.A) : CallRK X (.builtin "sorted") [Str.ofString "key"] (rSortedRank K f) := by
  subst hK
  exact cr_rank F0 hm hr
theorem pe_bmK {T name id : String} {r : V → List V → Hp → VK → Prop} {o e : Expr} {es : List Expr} {to : TE} {t : TA} {apos cpos : Pos} (pa : PlainAttrs T) (slot : Slot T name id) (hty : typeOf (.builtin id) = pure (.type "method_descriptor")) (hm : MtR X id r) (ho : PE X o to) (ha : PA X (e :: es) t)
    (hbase : attributeBase o name X.env (eval o X.env) = eval o X.env := by rfl)
    (hfew : ((backTo cpos (starEach (e :: es) X.env)).all (fun x => !x.1) && (backToKw cpos (keywordEach [] X.env)).all (fun x => x.1.isSome)
      && decide ((e :: es).length + ([] : List Keyword).length + (if ([] : List Keyword).isEmpty then 0 else 1) < 30)) = true := by rfl)
    (hline : (apos.endLine == cpos.line) = true := by rfl) (hs : starEach (e :: es) X.env = (false, eval e X.env) :: starEach es X.env := by rfl) (hplain : (backTo cpos (starEach es X.env)).any (·.1) = false := by rfl) :
    PE X (.Call (.Attribute o name apos) (e :: es) [] cpos) (tBM K T r to t) := hK ▸ pe_bm pa slot hty hm ho ha hbase hfew hline hs hplain
end
def rSetTK (K : PySem.W.Frag) (P : Program) (w : World) : List V → Hp → VK → Prop := fun vs H Q => ∃ (a : Addr) (xs : List Str), vs = [V.ref a] ∧ SqT K H a (xs.map V.str) ∧ xs.length < 64 ∧
  ∀ p l, l.length ≤ xs.length → (∀ x, x ∈ l ↔ x ∈ xs) → H p = none → Q (.ref p) (upd H p (SXO P w p l))
def rSortedXK (P : Program) (w : World) : List V → Hp → VK → Prop := fun vs H Q => ∃ (a : Addr) (l : List Str), vs = [V.ref a] ∧ H a = some (SXO P w a l) ∧ l.length < 64 ∧
  ∀ (ys : List Str) (p : Addr), ys.Perm l → l.Nodup → sortedS ys = true → H p = none → Q (.ref p) (upd H p (.lst (ys.map V.str)))
theorem cr_setTK {X : Cx} (K : PySem.W.Frag) (P : Program) (w : World) (hK : X.K = K) (hP : X.prog = P) (hw : X.w = w) (hc : X.calm = true) : CallR X (.type "set") (rSetTK K P w) := by
  subst hK hP hw
  exact cr_setT hc
theorem cr_sortedXK {X : Cx} (P : Program) (w : World) (hP : X.prog = P) (hw : X.w = w) (hc : X.calm = true) : CallR X (.builtin "sorted") (rSortedXK P w) := by
  subst hP hw
  exact cr_sortedX hc
theorem cr_strsK {X : Cx} (K : PySem.W.Frag) (hK : X.K = K) : CallR X (.builtin "sorted") (fun vs H Q => rSortedS K vs H Q ∨ rSortedST K vs H Q) := by
  subst hK
  exact CallR.or cr_sortedS cr_sortedST
end L2.K25

namespace L2.K25
open PySem PySem.Spec PyProof.Rows
/-! valid_name, is_part, check_number, check_different, lies_in, meet -/
/-- a name -/
def VN (x : Str) : Prop := x.length ≤ 6 ∧ (∃ c r, x.cps.toList = c :: r ∧ c ∈ letters.cps.toList) ∧ ∀ c ∈ x.cps.toList, c ∈ letters.cps.toList ∨ c ∈ digits.cps.toList
def spValid : Sp := fun vs H Q _ => ∃ x, vs = [.str x] ∧ VN x ∧ Q (.bl true) H
def spPart : Sp := fun vs H Q _ => ∃ a v N c, vs = [.ref a, v] ∧ TNm H a N ∧ TS H v c ∧ N.Nodup ∧ c.Sublist N ∧ N.length ≤ 64 ∧ ∀ H', Same H H' → Q (.bl true) H'
def spNumber : Sp := fun vs H Q _ => ∃ n : Int, vs = [.int n] ∧ 1 ≤ n ∧ n ≤ 6 ∧ Q .non H
def Nms (H : Hp) (a : Addr) (N : List Str) : Prop := LNm H a N ∨ TNm H a N
def spDiff : Sp := fun vs H Q _ => ∃ a N, vs = [.ref a] ∧ Nms H a N ∧ N.Nodup ∧ N.length ≤ 64 ∧ (∀ x ∈ N, VN x) ∧ ∀ H', Same H H' → Q .non H'
def spLies : Sp := fun vs H Q _ => ∃ u v c d, vs = [u, v] ∧ TS H u c ∧ TS H v d ∧ c.length ≤ 64 ∧ ∀ H', Same H H' → Q (.bl (KM.sub c d)) H'
def spMeet : Sp := fun vs H Q _ => ∃ u v c d, vs = [u, v] ∧ TS H u c ∧ TS H v d ∧ c.length ≤ 64 ∧ ∀ H' z, Same H H' → TS H' z (c.filter fun x => decide (x ∈ d)) → Q z H'
theorem w64 {n : Nat} (h : n ≤ 64) : n ≤ sizeLine := by rw [sizeLine_eq]; omega
theorem w4k {n : Nat} (h : n ≤ 100000) : n ≤ sizeLine := by rw [sizeLine_eq]; omega
section
variable {P : Program} {w : World} {K : PySem.W.Frag} {mg : Str → Option Value} {base : Heap} {f : Addr} {fd : FuncData}
abbrev DValid (P w K mg base) := Df P w K mg base CX0 1 "valid_name" sValidName ["text"] spValid
abbrev DPart (P w K mg base) := Df P w K mg base CX0 1 "is_part" sIsPart ["names", "value"] spPart
abbrev DNumber (P w K mg base) := Df P w K mg base CX0 1 "check_number" sCheckNumber ["count"] spNumber
abbrev DDiff (P w K mg base) := Df P w K mg base CX0 2 "check_different" sCheckDifferent ["names"] spDiff
abbrev DLies (P w K mg base) := Df P w K mg base CX0 1 "lies_in" sLiesIn ["names", "wanted"] spLies
abbrev DMeet (P w K mg base) := Df P w K mg base CX0 1 "meet" sMeet ["one", "other"] spMeet

theorem scNumber : FnScope ["count"] ["count"] (defScope sCheckNumber) := ⟨rfl, rfl, rfl, by decide +kernel, rfl, by decide +kernel, by decide +kernel⟩
theorem ok_number (F : Fun K "check_number" "check_number" sCheckNumber f fd) (T : Txt K mg) : FnOk P w K mg base CX0 1 f fd ["count"] spNumber := by
  refine F.ok scNumber (fun vs H Q E h => ?_) (fun cdv A outer s H vs Q E hr h => ?_)
  · obtain ⟨n, rfl, _⟩ := h
    rfl
  · obtain ⟨n, rfl, h1, h2, q⟩ := h
    refine ⟨_, (pss_one (ps_if (pt_not (pt_chain op_le op_le pe_int (pv 0) (pe_glob (v := .int 6) rfl T.m_MOST_OUTCOMES ⟨_, rfl⟩))) (pss_one ps_never) pss_nil)), ?_⟩
    refine ⟨_, rfl, _, _, rfl, rfl, _, rfl, ?_⟩
    rw [decide_eq_true h1, if_pos rfl]
    refine ⟨_, _, rfl, rfl, _, rfl, ?_⟩
    rw [decide_eq_true h2]
    exact q

theorem scValid : FnScope ["text", "char"] ["text"] (defScope sValidName) := ⟨rfl, rfl, rfl, by decide +kernel, rfl, by decide +kernel, by decide +kernel⟩
theorem ok_valid (F : Fun K "valid_name" "valid_name" sValidName f fd) (T : Txt K mg) : FnOk P w K mg base CX0 1 f fd ["text"] spValid := by
  refine F.ok scValid (fun vs H Q E h => ?_) (fun cdv A outer s H vs Q E hr h => ?_)
  · obtain ⟨x, rfl, _⟩ := h
    rfl
  · obtain ⟨x, rfl, ⟨h6, ⟨c, r, hc, hl⟩, hall⟩, q⟩ := h
    have hlen : x.length = (c :: r).length := by rw [← hc, Array.length_toList]; rfl
    have h1 : (1 : Int) ≤ ((x.length : Nat) : Int) := by rw [hlen, List.length_cons]; omega
    have h2 : ((x.length : Nat) : Int) ≤ 6 := by omega
    refine ⟨_, (pss_cons (ps_if (PW.pt (pw_or (pt_not (pt_chain op_le op_le pe_int (pe_callB call_len_str (by rfl) T.b_len (by decide +kernel) (pa_cons (pv 0) pa_nil)) (pe_glob (v := .int 6) rfl T.m_LONGEST ⟨_, rfl⟩))) (pw_or1 (pt_cmpR op_notIn_sign (pe_ix ix_str (pv 0) pe_int (fun _ _ => rfl)) (pe_glob (v := .str letters) rfl T.m_LETTERS ⟨_, rfl⟩) (by rfl))))) (pss_one (ps_ret pe_bl)) pss_nil) (pss_cons (ps_for PassesOwn.never rfl (pi_str (pv 0)) (pg_name (i := 1) scValid.nd rfl (Or.inl rfl)) (pss_one (ps_if (PW.pt (pw_and (pt_cmpR op_notIn_sign (pv 1) (pe_glob (v := .str letters) rfl T.m_LETTERS ⟨_, rfl⟩) (by rfl)) (pw_and1 (pt_cmpR op_notIn_sign (pv 1) (pe_glob (v := .str digits) rfl T.m_DIGITS ⟨_, rfl⟩) (by rfl))))) (pss_one (ps_ret pe_bl)) pss_nil))) (pss_one (ps_ret pe_bl)))), ?_⟩
    refine ⟨_, rfl, x, rfl, w64 (by omega), _, _, rfl, rfl, _, rfl, ?_⟩
    rw [decide_eq_true h1, if_pos rfl]
    refine ⟨_, _, rfl, rfl, _, rfl, ?_⟩
    rw [decide_eq_true h2]
    refine ⟨_, rfl, x, 0, c, rfl, rfl, w64 (by omega), ?_, c, letters, rfl, rfl, _, rfl, ?_⟩
    · rw [hc]
      exact atI_nat rfl
    · rw [decide_eq_true hl]
      refine ⟨_, rfl, x, rfl, for_it walk_str (fun i σ H' => (∃ v, σ = [some (.str x), v]) ∧ H' = H) ⟨⟨none, rfl⟩, rfl⟩ (fun _ _ _ _ _ => trivial) ?_ ?_⟩
      · rintro i y σ H1 H2 hi ⟨⟨v, rfl⟩, rfl⟩ ⟨rfl, d, hd, rfl⟩
        have hm : d ∈ x.cps.toList := by
          rw [← Array.getElem?_toList] at hd
          exact List.mem_of_getElem? hd
        refine ⟨_, rfl, d, letters, rfl, rfl, _, rfl, ?_⟩
        rcases hall d hm with z | z
        · rw [decide_eq_true z]
          exact ⟨⟨_, rfl⟩, rfl⟩
        · by_cases z2 : d ∈ letters.cps.toList
          · rw [decide_eq_true z2]
            exact ⟨⟨_, rfl⟩, rfl⟩
          · rw [decide_eq_false z2]
            refine ⟨_, rfl, d, digits, rfl, rfl, _, rfl, ?_⟩
            rw [decide_eq_true z]
            exact ⟨⟨_, rfl⟩, rfl⟩
      · rintro σ H1 ⟨⟨v, rfl⟩, rfl⟩
        exact q

theorem scPart : FnScope ["names", "value", "name"] ["names", "value"] (defScope sIsPart) := ⟨rfl, rfl, rfl, by decide +kernel, rfl, by decide +kernel, by decide +kernel⟩
theorem ok_part (F : Fun K "is_part" "is_part" sIsPart f fd) (T : Txt K mg) : FnOk P w K mg base CX0 1 f fd ["names", "value"] spPart := by
  refine F.ok scPart (fun vs H Q E h => ?_) (fun cdv A outer s H vs Q E hr h => ?_)
  · obtain ⟨a, v, N, c, rfl, _⟩ := h
    rfl
  · obtain ⟨a, v, N, c, rfl, hN, ⟨b, rfl, hc⟩, nd, sb, hl, q⟩ := h
    refine ⟨_, (pss_cons (ps_if (pt_not (pt_val (pe_callB call_isi (by rfl) T.b_isinstance (by decide +kernel) (pa_cons (pv 1) (pa_cons (pe_bltn (v := .ty "tuple") (by rfl) T.b_tuple (by decide +kernel) rfl) pa_nil))))) (pss_one (ps_ret pe_bl)) pss_nil) (pss_one (ps_ret (pe_cmpR (op_eqPK K rfl hr.units) (pe_callTy (call_listK K rfl) (by rfl) T.b_list (by decide +kernel) (pa_cons (pv 1) pa_nil)) (pe_lc (own := [("name", 2)]) (g := gName 2) rfl scPart.nd (pi_tupK K rfl (pv 0)) (blkOk_by (own := [("name", 2)]) (N := ["names", "value", "name"]) (sc := defScope sIsPart) (by decide +kernel)) (fun _ _ _ _ _ => pg_name (i := 2) scPart.nd rfl (Or.inl rfl)) (fun _ _ _ _ _ => pts_one (pt_cmpR (op_inK K rfl) (pv 2) (pv 1) (by rfl))) (fun _ _ _ _ _ => (pv 2))) (nomark _))))), ?_⟩
    refine ⟨_, rfl, _, _, _, _, true, rfl, .ty "tuple", .base (.tup hc), kit_ty (by decide +kernel), _, rfl, ?_⟩
    refine ⟨_, rfl, b, _, rfl, .inr (.of hc), fun l hl' => ?_⟩
    have s1 : Same H (upd H l (.lst (c.map V.str))) := same_upd hl'
    refine ⟨_, rfl, a, rfl, ⟨_, SqT.of (s1 _ _ hN)⟩, fun D hD => ?_⟩
    refine lc_tup (K := K) (xs := N.map V.str) (CI _ D fun i H acc => acc = ((N.take i).filter fun x => decide (x ∈ c)).map V.str) (CI.start hD rfl) (fun i H _ z => SqT.of (z.1 _ _ (s1 _ _ hN))) ?_ ?_
    · rintro i x H1 hi ⟨z, acc, hd, hal, rfl⟩
      obtain ⟨y, hy, rfl⟩ := map_at hi
      refine ⟨rfl, _, rfl, _, rfl, inT (TS.mono (fun b o e => z b o (s1 b o e)) ⟨b, rfl, hc⟩) ⟨_, rfl, ?_⟩⟩
      by_cases hm : y ∈ c
      · rw [decide_eq_true hm]
        refine iteT ⟨_, rfl, CI.more hD (by have := (List.getElem?_eq_some_iff.mp hy).1; have := w64 hl; omega) z hd hal ?_⟩
        rw [take_snoc hy, List.filter_append, List.map_append]
        simp [hm]
      · rw [decide_eq_false hm]
        refine iteF (CI.skip z hd hal ?_)
        rw [take_snoc hy, List.filter_append]
        simp [hm]
    · rintro H1 ⟨z, acc, hd, hal, rfl⟩
      rw [List.length_map, List.take_length, KM.filter_sub nd sb] at hd
      refine eqN (z _ _ upd_same) hd ?_
      rw [decide_eq_true rfl]
      exact q _ fun b o e => z b o (s1 b o e)
end
end L2.K25

namespace L2.K25
open PySem PySem.Spec PyProof.Rows
section
variable {P : Program} {w : World} {K : PySem.W.Frag} {mg : Str → Option Value} {base : Heap} {f : Addr} {fd : FuncData}
theorem scDiff : FnScope ["names", "earlier", "name"] ["names"] (defScope sCheckDifferent) := ⟨rfl, rfl, rfl, by decide +kernel, rfl, by decide +kernel, by decide +kernel⟩
theorem nodup_take {N : List Str} {i : Nat} {x : Str} (nd : N.Nodup) (h : N[i]? = some x) : x ∉ N.take i := fun hm => by
  obtain ⟨j, hj, e⟩ := List.getElem_of_mem hm
  rw [List.length_take] at hj
  rw [List.getElem_take] at e
  obtain ⟨hi, e2⟩ := List.getElem?_eq_some_iff.mp h
  have := (List.nodup_iff_pairwise_ne.mp nd)
  have h3 := List.pairwise_iff_getElem.mp this j i (by omega) hi (by omega)
  exact h3 (e.trans e2.symm)
theorem ok_diff (F : Fun K "check_different" "check_different" sCheckDifferent f fd) (T : Txt K mg) (G_valid_name : DValid P w K mg base) : FnOk P w K mg base CX0 2 f fd ["names"] spDiff := by
  refine F.ok scDiff (fun vs H Q E h => ?_) (fun cdv A outer s H vs Q E hr h => ?_)
  · obtain ⟨n, N, rfl, _⟩ := h
    rfl
  · obtain ⟨a, N, rfl, hN, nd, hl, hv, q⟩ := h
    rcases hN with hN | hN
    · refine ⟨_, (pss_cons (ps_set (i := 1) scDiff.nd rfl (Or.inl rfl) (pe_lst pa_nil)) (pss_one (ps_for PassesOwn.never rfl (pi_listK K rfl (pv 0)) (pg_name (i := 2) scDiff.nd rfl (Or.inl rfl)) (pss_cons (ps_if (pt_not (pt_val (pe_call G_valid_name.ok (hr.mono (by decide)) rfl G_valid_name.m G_valid_name.kp G_valid_name.b .nil pass0 (pa_cons (pv 2) pa_nil)))) (pss_one ps_never) pss_nil) (pss_cons (ps_if (pt_cmpR (op_inK K rfl) (pv 2) (pv 1) (by rfl)) (pss_one ps_never) pss_nil) (pss_one (ps_expr (pe_bmK K rfl PySem.F.plainAttrs_list PySem.F.slot_list_append PySem.F.type_list_append mt_append (pv 1) (pa_cons (pv 2) pa_nil))))))))), ?_⟩
      refine ⟨Nat.zero_le _, fun l hl' => ?_⟩
      have s1 : Same H (upd H l (.lst [])) := same_upd hl'
      refine ⟨_, rfl, a, rfl, ⟨_, SqL.of (s1 _ _ hN)⟩, for_list (K := K) (xs := N.map V.str) (fun i σ H1 => (∃ v, σ = [some (.ref a), some (.ref l), v]) ∧ Same H H1 ∧ H1 l = some (.lst ((N.take i).map V.str)))
        ⟨⟨none, rfl⟩, s1, upd_same⟩ (fun i σ H1 _ z => SqL.of (z.2.1 _ _ hN)) ?_ ?_⟩
      · rintro i y σ H1 hi ⟨⟨v, rfl⟩, s2, e2⟩
        obtain ⟨x, hx, rfl⟩ := map_at hi
        have hix := (List.getElem?_eq_some_iff.mp hx).1
        refine ⟨_, rfl, x, rfl, hv x (List.mem_of_getElem? hx), ?_⟩
        refine ⟨true, rfl, _, rfl, _, rfl, inN e2 ?_⟩
        rw [decide_eq_false (nodup_take nd hx)]
        refine ⟨false, rfl, iteF ?_⟩
        refine ⟨_, rfl, .inl ⟨rfl, _, SqL.of e2⟩, _, rfl, l, _, _, rfl, rfl, e2, ?_, ⟨_, rfl⟩, Same.upd_after s2 hl', ?_⟩
        · rw [List.length_map, List.length_take]
          have := w64 hl
          omega
        · rw [take_snoc hx, List.map_append]
          exact upd_same
      · rintro σ H1 ⟨_, s2, _⟩
        exact q _ s2
    · refine ⟨_, (pss_cons (ps_set (i := 1) scDiff.nd rfl (Or.inl rfl) (pe_lst pa_nil)) (pss_one (ps_for PassesOwn.never rfl (pi_tupK K rfl (pv 0)) (pg_name (i := 2) scDiff.nd rfl (Or.inl rfl)) (pss_cons (ps_if (pt_not (pt_val (pe_call G_valid_name.ok (hr.mono (by decide)) rfl G_valid_name.m G_valid_name.kp G_valid_name.b .nil pass0 (pa_cons (pv 2) pa_nil)))) (pss_one ps_never) pss_nil) (pss_cons (ps_if (pt_cmpR (op_inK K rfl) (pv 2) (pv 1) (by rfl)) (pss_one ps_never) pss_nil) (pss_one (ps_expr (pe_bmK K rfl PySem.F.plainAttrs_list PySem.F.slot_list_append PySem.F.type_list_append mt_append (pv 1) (pa_cons (pv 2) pa_nil))))))))), ?_⟩
      refine ⟨Nat.zero_le _, fun l hl' => ?_⟩
      have s1 : Same H (upd H l (.lst [])) := same_upd hl'
      refine ⟨_, rfl, a, rfl, ⟨_, SqT.of (s1 _ _ hN)⟩, for_tup (K := K) (xs := N.map V.str) (fun i σ H1 => (∃ v, σ = [some (.ref a), some (.ref l), v]) ∧ Same H H1 ∧ H1 l = some (.lst ((N.take i).map V.str)))
        ⟨⟨none, rfl⟩, s1, upd_same⟩ (fun i σ H1 _ z => SqT.of (z.2.1 _ _ hN)) ?_ ?_⟩
      · rintro i y σ H1 hi ⟨⟨v, rfl⟩, s2, e2⟩
        obtain ⟨x, hx, rfl⟩ := map_at hi
        have hix := (List.getElem?_eq_some_iff.mp hx).1
        refine ⟨_, rfl, x, rfl, hv x (List.mem_of_getElem? hx), ?_⟩
        refine ⟨true, rfl, _, rfl, _, rfl, inN e2 ?_⟩
        rw [decide_eq_false (nodup_take nd hx)]
        refine ⟨false, rfl, iteF ?_⟩
        refine ⟨_, rfl, .inl ⟨rfl, _, SqL.of e2⟩, _, rfl, l, _, _, rfl, rfl, e2, ?_, ⟨_, rfl⟩, Same.upd_after s2 hl', ?_⟩
        · rw [List.length_map, List.length_take]
          have := w64 hl
          omega
        · rw [take_snoc hx, List.map_append]
          exact upd_same
      · rintro σ H1 ⟨_, s2, _⟩
        exact q _ s2

theorem scLies : FnScope ["names", "wanted", "name"] ["names", "wanted"] (defScope sLiesIn) := ⟨rfl, rfl, rfl, by decide +kernel, rfl, by decide +kernel, by decide +kernel⟩
theorem ok_lies (F : Fun K "lies_in" "lies_in" sLiesIn f fd) (T : Txt K mg) : FnOk P w K mg base CX0 1 f fd ["names", "wanted"] spLies := by
  refine F.ok scLies (fun vs H Q E h => ?_) (fun cdv A outer s H vs Q E hr h => ?_)
  · obtain ⟨u, v, c, d, rfl, _⟩ := h
    rfl
  · obtain ⟨u, v, c, d, rfl, ⟨a, rfl, ha⟩, hd, hl, q⟩ := h
    refine ⟨_, (pss_one (ps_ret (pe_callB (cr_all rfl) (by rfl) T.b_all (by decide +kernel) (pa_cons (pe_lc (own := [("name", 2)]) (g := gName 2) (tt := tYes) rfl scLies.nd (pi_tupK K rfl (pv 0)) (blkOk_by (own := [("name", 2)]) (N := ["names", "wanted", "name"]) (sc := defScope sLiesIn) (by decide +kernel)) (fun _ _ _ _ _ => pg_name (i := 2) scLies.nd rfl (Or.inl rfl)) (fun _ _ _ _ _ => pts_nil) (fun _ _ _ _ _ => (pe_cmpR (op_inK K rfl) (pv 2) (pv 1) (by rfl)))) pa_nil)))), ?_⟩
    refine ⟨_, rfl, a, rfl, ⟨_, SqT.of ha⟩, fun D hD => ?_⟩
    refine lc_tup (K := K) (xs := c.map V.str) (CI _ D fun i H acc => acc = ((c.take i).map fun x => decide (x ∈ d)).map V.bl) (CI.start hD rfl) (fun i H _ z => SqT.of (z.1 _ _ ha)) ?_ ?_
    · rintro i x H1 hi ⟨z, acc, hD1, hal, rfl⟩
      obtain ⟨y, hy, rfl⟩ := map_at hi
      refine ⟨rfl, _, rfl, _, rfl, inT (TS.mono z hd) (CI.more hD (by have := (List.getElem?_eq_some_iff.mp hy).1; have := w64 hl; omega) z hD1 hal ?_)⟩
      rw [take_snoc hy, List.map_append, List.map_append]
      rfl
    · rintro H1 ⟨z, acc, hD1, hal, rfl⟩
      rw [List.length_map, List.take_length] at hD1
      refine ⟨D, _, rfl, SqL.of hD1, ?_⟩
      have e : (c.map fun x => decide (x ∈ d)).all id = KM.sub c d := by
        unfold KM.sub
        rw [List.all_map]
        rfl
      rw [e]
      exact q _ z

theorem scMeet : FnScope ["one", "other", "name"] ["one", "other"] (defScope sMeet) := ⟨rfl, rfl, rfl, by decide +kernel, rfl, by decide +kernel, by decide +kernel⟩
theorem ok_meet (F : Fun K "meet" "meet" sMeet f fd) (T : Txt K mg) : FnOk P w K mg base CX0 1 f fd ["one", "other"] spMeet := by
  refine F.ok scMeet (fun vs H Q E h => ?_) (fun cdv A outer s H vs Q E hr h => ?_)
  · obtain ⟨u, v, c, d, rfl, _⟩ := h
    rfl
  · obtain ⟨u, v, c, d, rfl, ⟨a, rfl, ha⟩, hd, hl, q⟩ := h
    refine ⟨_, (pss_one (ps_ret (pe_callTy (call_tupleK K rfl) (by rfl) T.b_tuple (by decide +kernel) (pa_cons (pe_lc (own := [("name", 2)]) (g := gName 2) rfl scMeet.nd (pi_tupK K rfl (pv 0)) (blkOk_by (own := [("name", 2)]) (N := ["one", "other", "name"]) (sc := defScope sMeet) (by decide +kernel)) (fun _ _ _ _ _ => pg_name (i := 2) scMeet.nd rfl (Or.inl rfl)) (fun _ _ _ _ _ => pts_one (pt_cmpR (op_inK K rfl) (pv 2) (pv 1) (by rfl))) (fun _ _ _ _ _ => (pv 2))) pa_nil)))), ?_⟩
    refine ⟨_, rfl, a, rfl, ⟨_, SqT.of ha⟩, fun D hD => ?_⟩
    refine lc_tup (K := K) (xs := c.map V.str) (CI _ D fun i H acc => acc = ((c.take i).filter fun x => decide (x ∈ d)).map V.str) (CI.start hD rfl) (fun i H _ z => SqT.of (z.1 _ _ ha)) ?_ ?_
    · rintro i x H1 hi ⟨z, acc, hD1, hal, rfl⟩
      obtain ⟨y, hy, rfl⟩ := map_at hi
      refine ⟨rfl, _, rfl, _, rfl, inT (TS.mono z hd) ⟨_, rfl, ?_⟩⟩
      by_cases hm : y ∈ d
      · rw [decide_eq_true hm]
        refine iteT ⟨_, rfl, CI.more hD (by have := (List.getElem?_eq_some_iff.mp hy).1; have := w64 hl; omega) z hD1 hal ?_⟩
        rw [take_snoc hy, List.filter_append, List.map_append]
        simp [hm]
      · rw [decide_eq_false hm]
        refine iteF (CI.skip z hD1 hal ?_)
        rw [take_snoc hy, List.filter_append]
        simp [hm]
    · rintro H1 ⟨z, acc, hD1, hal, rfl⟩
      rw [List.length_map, List.take_length] at hD1
      refine ⟨D, _, rfl, .inl ⟨SqL.of hD1, fun p hp => q _ _ (Same.trans z (same_upd hp)) ⟨p, rfl, upd_same⟩⟩⟩
end
end L2.K25

namespace L2.K25
open PySem PySem.Spec PyProof.Rows
/-! is_set, meets_all, all_sets, minimal_sets, dual_sets -/
structure RkD (K : PySem.W.Frag) (mg : Str → Option Value) where
  f : Addr
  fd : FuncData
  F : Fun K "set_rank" "set_rank" sSetRank f fd
  m : mg "set_rank" = some (.ref f)
def spMeets : Sp := fun vs H Q _ => ∃ u t c F, vs = [u, .ref t] ∧ TS H u c ∧ TsA H t F ∧ c.length ≤ 64 ∧ F.length ≤ 4096 ∧ ∀ H', Same H H' → Q (.bl (KM.meets F c)) H'
def spAll : Sp := fun vs H Q _ => ∃ a N, vs = [.ref a] ∧ TNm H a N ∧ N.length ≤ 6 ∧ ∀ H' q, Same H H' → LsA H' q (KM.allS rle N) → Q (.ref q) H'
def spMini : Sp := fun vs H Q _ => ∃ a F, vs = [.ref a] ∧ LsA H a F ∧ F.length ≤ 4096 ∧ (∀ c ∈ F, c.length ≤ 64) ∧ ∀ H' q, Same H H' → LsA H' q (KM.mini rle F) → Q (.ref q) H'
def spDual : Sp := fun vs H Q _ => ∃ a t N F, vs = [.ref a, .ref t] ∧ TNm H a N ∧ TsA H t F ∧ N.length ≤ 6 ∧ F.length ≤ 4096 ∧ ∀ H' q, Same H H' → LsA H' q (KM.mini rle ((KM.allS rle N).filter (KM.meets F))) → Q (.ref q) H'
theorem w4096 {n : Nat} (h : n ≤ 4096) : n ≤ sizeLine := by rw [sizeLine_eq]; omega
theorem meet_any (c f : List Str) : (!decide ((c.filter fun x => decide (x ∈ f)) = [])) = f.any fun x => decide (x ∈ c) := by
  rw [Bool.eq_iff_iff, Bool.not_eq_true', decide_eq_false_iff_not, List.any_eq_true, List.filter_eq_nil_iff]
  constructor
  · intro h
    apply Classical.byContradiction
    intro hn
    refine h fun x hx => ?_
    intro hf
    exact hn ⟨x, of_decide_eq_true hf, decide_eq_true hx⟩
  · rintro ⟨x, hx, hc⟩ h
    exact h x (of_decide_eq_true hc) (decide_eq_true hx)
section
variable {P : Program} {w : World} {K : PySem.W.Frag} {mg : Str → Option Value} {base : Heap} {f : Addr} {fd : FuncData}
abbrev DIsSet (P w K mg base) := Df P w K mg base CX0 2 "is_set" sIsSet ["outcomes", "value"] spPart
abbrev DMeets (P w K mg base) := Df P w K mg base CX0 2 "meets_all" sMeetsAll ["names", "sets"] spMeets
abbrev DAll (P w K mg base) := Df P w K mg base CX0 2 "all_sets" sAllSets ["outcomes"] spAll
abbrev DMini (P w K mg base) := Df P w K mg base CX0 2 "minimal_sets" sMinimalSets ["found"] spMini
abbrev DDual (P w K mg base) := Df P w K mg base CX0 3 "dual_sets" sDualSets ["names", "sets"] spDual

theorem scIsSet : FnScope ["outcomes", "value"] ["outcomes", "value"] (defScope sIsSet) := ⟨rfl, rfl, rfl, by decide +kernel, rfl, by decide +kernel, by decide +kernel⟩
theorem ok_isSet (F : Fun K "is_set" "is_set" sIsSet f fd) (G_is_part : DPart P w K mg base) : FnOk P w K mg base CX0 2 f fd ["outcomes", "value"] spPart := by
  refine F.ok scIsSet (fun vs H Q E h => ?_) (fun cdv A outer s H vs Q E hr h => ?_)
  · obtain ⟨a, v, N, c, rfl, _⟩ := h
    rfl
  · have h0 := h
    obtain ⟨a, v, N, c, rfl, _⟩ := h
    refine ⟨_, (pss_one (ps_ret (pe_call G_is_part.ok (hr.mono (by decide)) rfl G_is_part.m G_is_part.kp G_is_part.b .nil pass0 (pa_cons (pv 0) (pa_cons (pv 1) pa_nil))))), ?_⟩
    exact ⟨_, rfl, _, rfl, h0⟩

theorem scMeets : FnScope ["names", "sets", "other"] ["names", "sets"] (defScope sMeetsAll) := ⟨rfl, rfl, rfl, by decide +kernel, rfl, by decide +kernel, by decide +kernel⟩
theorem ok_meets (F : Fun K "meets_all" "meets_all" sMeetsAll f fd) (T : Txt K mg) (G_meet : DMeet P w K mg base) : FnOk P w K mg base CX0 2 f fd ["names", "sets"] spMeets := by
  refine F.ok scMeets (fun vs H Q E h => ?_) (fun cdv A outer s H vs Q E hr h => ?_)
  · obtain ⟨u, t, c, F, rfl, _⟩ := h
    rfl
  · obtain ⟨u, t, c, F, rfl, hc, ⟨vs, ht, hF⟩, hl, hlF, q⟩ := h
    refine ⟨_, (pss_one (ps_ret (pe_callB (cr_all rfl) (by rfl) T.b_all (by decide +kernel) (pa_cons (pe_lc (own := [("other", 2)]) (g := gName 2) (tt := tYes) rfl scMeets.nd (pi_tupK K rfl (pv 1)) (blkOk_by (own := [("other", 2)]) (N := ["names", "sets", "other"]) (sc := defScope sMeetsAll) (by decide +kernel)) (fun _ _ _ _ _ => pg_name (i := 2) scMeets.nd rfl (Or.inl rfl)) (fun _ _ _ _ _ => pts_nil) (fun _ _ _ _ _ => (pe_cmpR (op_nePK K rfl hr.units) (pe_call G_meet.ok (hr.mono (by decide)) rfl G_meet.m G_meet.kp G_meet.b .nil pass0 (pa_cons (pv 0) (pa_cons (pv 2) pa_nil))) (pe_tup pa_nil) (nomark _)))) pa_nil)))), ?_⟩
    refine ⟨_, rfl, t, rfl, ⟨_, SqT.of ht⟩, fun D hD => ?_⟩
    refine lc_tup (K := K) (xs := vs) (CI _ D fun i H acc => acc = ((F.take i).map fun x => x.any fun y => decide (y ∈ c)).map V.bl) (CI.start hD rfl) (fun i H _ z => SqT.of (z.1 _ _ ht)) ?_ ?_
    · rintro i x H1 hi ⟨z, acc, hD1, hal, rfl⟩
      obtain ⟨o, ho, hx⟩ := hF.get hi
      refine ⟨rfl, _, rfl, _, rfl, u, x, c, o, rfl, hc.mono z, hx.mono z, hl, fun H2 m s2 hm => ⟨Nat.zero_le _, fun p hp => ?_⟩⟩
      have s3 : Same H2 (upd H2 p (.tup [])) := same_upd hp
      refine neT (d := []) (hm.mono s3) ⟨p, rfl, upd_same⟩ ?_
      rw [meet_any]
      refine CI.more hD (by have := (List.getElem?_eq_some_iff.mp ho).1; have := w4096 hlF; omega) (Same.trans z (Same.trans s2 s3)) (s3 _ _ (s2 _ _ hD1)) hal ?_
      rw [take_snoc ho, List.map_append, List.map_append]
      rfl
    · rintro H1 ⟨z, acc, hD1, hal, rfl⟩
      rw [hF.len, List.take_length] at hD1
      refine ⟨D, _, rfl, SqL.of hD1, ?_⟩
      have e : (F.map fun x => x.any fun y => decide (y ∈ c)).all id = KM.meets F c := by
        unfold KM.meets
        rw [List.all_map]
        rfl
      rw [e]
      exact q _ z

theorem scAll : FnScope ["outcomes", "found", "name", "names"] ["outcomes"] (defScope sAllSets) := ⟨rfl, rfl, rfl, by decide +kernel, rfl, by decide +kernel, by decide +kernel⟩
theorem subs_le {N : List Str} {i : Nat} (h : N.length ≤ 6) : (KM.subs (N.take i)).length ≤ 64 := by
  rw [KM.subs_length]
  have : (N.take i).length ≤ 6 := by rw [List.length_take]; omega
  exact Nat.pow_le_pow_right (by decide) this
theorem ok_all (F : Fun K "all_sets" "all_sets" sAllSets f fd) (T : Txt K mg) (G_set_rank : RkD K mg) : FnOk P w K mg base CX0 2 f fd ["outcomes"] spAll := by
  refine F.ok scAll (fun vs H Q E h => ?_) (fun cdv A outer s H vs Q E hr h => ?_)
  · obtain ⟨a, N, rfl, _⟩ := h
    rfl
  · obtain ⟨a, N, rfl, hN, hl, q⟩ := h
    refine ⟨_, (pss_cons (ps_set (i := 1) scAll.nd rfl (Or.inl rfl) (pe_lst (pa_cons (pe_tup pa_nil) pa_nil))) (pss_cons (ps_for PassesOwn.never rfl (pi_tupK K rfl (pv 0)) (pg_name (i := 2) scAll.nd rfl (Or.inr rfl)) (pss_one (ps_set (i := 1) scAll.nd rfl (Or.inl rfl) (pe_op op_cat (pv 1) (pe_lc (own := [("names", 3)]) (g := gName 3) (tt := tYes) rfl scAll.nd (pi_listK K rfl (pv 1)) (blkOk_by (own := [("names", 3)]) (N := ["outcomes", "found", "name", "names"]) (sc := defScope sAllSets) (by decide +kernel)) (fun _ _ _ _ _ => pg_name (i := 3) scAll.nd rfl (Or.inl rfl)) (fun _ _ _ _ _ => pts_nil) (fun _ _ _ _ _ => (pe_op (op_catAK K rfl) (pv 3) (pe_tup (pa_cons (pv 2) pa_nil))))))))) (pss_one (ps_ret (pe_callBK (cr_rankK K rfl G_set_rank.F T.b_len (hr.mono (by decide))) (by rfl) T.b_sorted (by decide +kernel) (pa_cons (pv 1) pa_nil) (pk_cons (pe_glob (v := .ref G_set_rank.f) rfl G_set_rank.m rfl) pk_nil)))))), ?_⟩
    refine ⟨Nat.zero_le _, fun e0 he0 => ⟨(by show 1 ≤ sizeLine; decide), fun l0 hl0 => ?_⟩⟩
    have s0 : Same H (upd (upd H e0 (.tup [])) l0 (.lst [.ref e0])) := Same.upd_after (same_upd he0) ((same_upd he0).free hl0)
    refine ⟨_, rfl, a, rfl, ⟨_, SqT.of (s0 _ _ hN)⟩, for_tup (K := K) (xs := N.map V.str) (fun i σ H1 => ∃ l vs v, σ = [some (.ref a), some (.ref l), v, none] ∧ Same H H1 ∧ H1 l = some (.lst vs) ∧ TSs H1 vs (KM.subs (N.take i)))
      ⟨l0, _, none, rfl, s0, upd_same, .cons ⟨e0, rfl, by rw [upd_ne (ne_of_none upd_same hl0)]; exact upd_same⟩ .nil⟩ (fun i σ H1 _ ⟨_, _, _, _, z, _⟩ => SqT.of (z _ _ hN)) ?_ ?_⟩
    · rintro i y σ H1 hi ⟨l, vs, v, rfl, z, hv, hts⟩
      obtain ⟨n, hn, rfl⟩ := map_at hi
      have hvl : vs.length ≤ 64 := by rw [hts.len]; exact subs_le hl
      refine ⟨_, rfl, _, rfl, l, rfl, ⟨_, SqL.of hv⟩, fun D hD => ?_⟩
      refine lc_list (K := K) (xs := vs) (CI _ D fun j H acc => TSs H acc (((KM.subs (N.take i)).take j).map (· ++ [n]))) (CI.start hD .nil) (fun j H _ z => SqL.of (z.1 _ _ hv)) ?_ ?_
      · rintro j x H2 hj ⟨z2, acc, hD2, hal, hacc⟩
        obtain ⟨c, hc, b, rfl, hb⟩ := hts.get hj
        have hb2 := z2 _ _ hb
        refine ⟨rfl, _, rfl, _, rfl, (by show 1 ≤ sizeLine; decide), fun p hp => ?_⟩
        have s3 : Same H2 (upd H2 p (.tup [.str n])) := same_upd hp
        have hjl : j < sizeLine := by
          have := (List.getElem?_eq_some_iff.mp hj).1
          have := w64 hvl
          omega
        have fin : ∀ (H3 : Hp) (r : Addr), Same H2 H3 → H3 r = some (.tup ((c ++ [n]).map V.str)) → ∃ acc, H3 D = some (.lst acc) ∧ acc.length < sizeLine ∧ CI H1 D (fun j H acc => TSs H acc (((KM.subs (N.take i)).take j).map (· ++ [n]))) (j + 1) (upd H3 D (.lst (acc ++ [.ref r]))) := by
          intro H3 r s4 hr3
          refine CI.more hD hjl (Same.trans z2 s4) (s4 _ _ hD2) hal ?_
          rw [take_snoc hc, List.map_append]
          exact TSs.snoc ((hacc.mono s4).updL (s4 _ _ hD2)) (TS.updL (s4 _ _ hD2) ⟨r, rfl, hr3⟩)
        have hcl : c.length ≤ 64 := by
          have := KM.mem_subs.mp (List.mem_of_getElem? hc)
          have := this.length_le
          have h6 : (N.take i).length ≤ 6 := by rw [List.length_take]; omega
          omega
        refine ⟨b, p, _, _, rfl, rfl, SqT.of (s3 _ _ hb2), SqT.of upd_same, ?_, fun e => ?_, fun _ e => ?_, fun _ _ r hr => ?_⟩
        · rw [List.length_map, List.length_singleton]
          exact w4096 (by omega)
        · refine fin _ p s3 ?_
          have : c = [] := by simpa using e
          subst this
          exact upd_same
        · cases e
        · refine fin _ r (Same.trans s3 (same_upd hr)) ?_
          rw [List.map_append]
          exact upd_same
      · rintro H2 ⟨z2, acc, hD2, hal, hacc⟩
        rw [hts.len, List.take_length] at hacc
        refine ⟨l, D, vs, acc, rfl, rfl, z2 _ _ hv, hD2, ?_, fun p hp => ?_⟩
        · exact w4096 (by omega)
        · have s5 : Same H2 (upd H2 p (.lst (vs ++ acc))) := same_upd hp
          refine ⟨p, _, _, rfl, Same.trans z (Same.trans z2 s5), upd_same, ?_⟩
          rw [take_snoc hn, KM.subs_snoc]
          exact TSs.app ((hts.mono z2).mono s5) (hacc.mono s5)
    · rintro σ H1 ⟨l, vs, v, rfl, z, hv, hts⟩
      rw [List.length_map, List.take_length] at hts
      refine ⟨_, rfl, l, vs, _, rfl, rfl, SqL.of hv, hts, fun ys p hys hp => ?_⟩
      have s6 : Same H1 (upd H1 p (.lst ys)) := same_upd hp
      exact q _ p (Same.trans z s6) ⟨ys, upd_same, hys.mono s6⟩
end
end L2.K25

namespace L2.K25
open PySem PySem.Spec PyProof.Rows
section
variable {P : Program} {w : World} {K : PySem.W.Frag} {mg : Str → Option Value} {base : Heap} {f : Addr} {fd : FuncData}
theorem greedy_take {F : List (List Str)} {i : Nat} {c : List Str} (h : (KM.srt rle F)[i]? = some c) : ((KM.srt rle F).take (i + 1)).foldl KM.step [] = KM.step (((KM.srt rle F).take i).foldl KM.step []) c := by
  rw [take_snoc h, List.foldl_append]
  rfl
theorem greedy_len (F : List (List Str)) (i : Nat) : (((KM.srt rle F).take i).foldl KM.step []).length ≤ i := by
  have h := (KM.greedy_sublist ((KM.srt rle F).take i)).length_le
  unfold KM.greedy at h
  rw [List.length_take] at h
  omega
theorem scMini : FnScope ["found", "least", "names", "other"] ["found"] (defScope sMinimalSets) := ⟨rfl, rfl, rfl, by decide +kernel, rfl, by decide +kernel, by decide +kernel⟩
theorem ok_mini (F : Fun K "minimal_sets" "minimal_sets" sMinimalSets f fd) (T : Txt K mg) (G_set_rank : RkD K mg) (G_lies_in : DLies P w K mg base) : FnOk P w K mg base CX0 2 f fd ["found"] spMini := by
  refine F.ok scMini (fun vs H Q E h => ?_) (fun cdv A outer s H vs Q E hr h => ?_)
  · obtain ⟨a, F, rfl, _⟩ := h
    rfl
  · obtain ⟨a, L, rfl, ⟨vs, hv, hL⟩, hl, hc, q⟩ := h
    refine ⟨_, (pss_cons (ps_set (i := 1) scMini.nd rfl (Or.inl rfl) (pe_lst pa_nil)) (pss_cons (ps_for PassesOwn.never rfl (pi_listK K rfl (pe_callBK (cr_rankK K rfl G_set_rank.F T.b_len (hr.mono (by decide))) (by rfl) T.b_sorted (by decide +kernel) (pa_cons (pv 0) pa_nil) (pk_cons (pe_glob (v := .ref G_set_rank.f) rfl G_set_rank.m rfl) pk_nil))) (pg_name (i := 2) scMini.nd rfl (Or.inr rfl)) (pss_one (ps_if (pt_not (pt_val (pe_callB (cr_any rfl) (by rfl) T.b_any (by decide +kernel) (pa_cons (pe_lc (own := [("other", 3)]) (g := gName 3) (tt := tYes) rfl scMini.nd (pi_listK K rfl (pv 1)) (blkOk_by (own := [("other", 3)]) (N := ["found", "least", "names", "other"]) (sc := defScope sMinimalSets) (by decide +kernel)) (fun _ _ _ _ _ => pg_name (i := 3) scMini.nd rfl (Or.inl rfl)) (fun _ _ _ _ _ => pts_nil) (fun _ _ _ _ _ => (pe_call G_lies_in.ok (hr.mono (by decide)) rfl G_lies_in.m G_lies_in.kp G_lies_in.b .nil pass0 (pa_cons (pv 3) (pa_cons (pv 2) pa_nil))))) pa_nil)))) (pss_one (ps_expr (pe_bmK K rfl PySem.F.plainAttrs_list PySem.F.slot_list_append PySem.F.type_list_append mt_append (pv 1) (pa_cons (pv 2) pa_nil)))) pss_nil))) (pss_one (ps_ret (pv 1))))), ?_⟩
    refine ⟨Nat.zero_le _, fun l0 hl0 => ?_⟩
    have s0 : Same H (upd H l0 (.lst [])) := same_upd hl0
    refine ⟨_, rfl, a, vs, L, rfl, rfl, SqL.of (s0 _ _ hv), hL.mono s0, fun ys p hys hp => ?_⟩
    have s1 : Same (upd H l0 (.lst [])) (upd (upd H l0 (.lst [])) p (.lst ys)) := same_upd hp
    have npl : p ≠ l0 := fun e => by rw [e, upd_same] at hp; cases hp
    have hcs : ∀ c ∈ KM.srt rle L, c.length ≤ 64 := fun c h => hc c (KM.mem_srt.mp h)
    have hyl : ys.length ≤ 4096 := by rw [hys.len, KM.srt_length]; exact hl
    refine ⟨p, rfl, ⟨_, SqL.of upd_same⟩, for_list (K := K) (xs := ys) (fun i σ H1 => ∃ vs v, σ = [some (.ref a), some (.ref l0), v, none] ∧ Same H H1 ∧ H1 p = some (.lst ys) ∧ TSs H1 ys (KM.srt rle L) ∧ H1 l0 = some (.lst vs) ∧ TSs H1 vs (((KM.srt rle L).take i).foldl KM.step []))
      ⟨[], none, rfl, Same.trans s0 s1, upd_same, hys.mono s1, s1 _ _ upd_same, .nil⟩ (fun i σ H1 _ ⟨_, _, _, _, z, _⟩ => SqL.of z) ?_ ?_⟩
    · rintro i y σ H1 hi ⟨us, v, rfl, z, hp1, hys1, hl1, hus⟩
      obtain ⟨c, hcc, hyc⟩ := hys1.get hi
      have hul : us.length ≤ 4096 := by
        rw [hus.len]
        have := greedy_len L i
        have := (List.getElem?_eq_some_iff.mp hi).1
        omega
      refine ⟨_, rfl, l0, rfl, ⟨_, SqL.of hl1⟩, fun D hD => ?_⟩
      refine lc_list (K := K) (xs := us) (CI _ D fun j H acc => acc = (((((KM.srt rle L).take i).foldl KM.step []).take j).map fun o => KM.sub o c).map V.bl) (CI.start hD rfl) (fun j H _ z => SqL.of (z.1 _ _ hl1)) ?_ ?_
      · rintro j x H2 hj ⟨z2, acc, hD2, hal, rfl⟩
        obtain ⟨o, ho, hx⟩ := hus.get hj
        have hom : o ∈ KM.srt rle L := by
          have h1 := List.mem_of_getElem? ho
          have h2 := (KM.greedy_sublist ((KM.srt rle L).take i)).subset h1
          exact List.mem_of_mem_take h2
        refine ⟨rfl, _, rfl, _, rfl, x, y, o, c, rfl, hx.mono z2, hyc.mono z2, hcs o hom, fun H3 s3 => ?_⟩
        refine CI.more hD (by have := (List.getElem?_eq_some_iff.mp hj).1; have := w4096 hul; omega) (Same.trans z2 s3) (s3 _ _ hD2) hal ?_
        rw [take_snoc ho, List.map_append, List.map_append]
        rfl
      · rintro H2 ⟨z2, acc, hD2, hal, rfl⟩
        rw [hus.len, List.take_length] at hD2
        refine ⟨D, _, rfl, SqL.of hD2, ?_⟩
        have e : ((((KM.srt rle L).take i).foldl KM.step []).map fun o => KM.sub o c).any id = KM.forced (((KM.srt rle L).take i).foldl KM.step []) c := by
          unfold KM.forced
          rw [List.any_map]
          rfl
        rw [e]
        refine ⟨_, rfl, ?_⟩
        by_cases hf : KM.forced (((KM.srt rle L).take i).foldl KM.step []) c = true
        · rw [hf]
          refine ⟨us, _, rfl, Same.trans z z2, z2 _ _ hp1, hys1.mono z2, z2 _ _ hl1, ?_⟩
          rw [greedy_take hcc, KM.step_pos hf]
          exact hus.mono z2
        · rw [Bool.eq_false_iff.mpr hf]
          have s4 : H2 l0 = some (.lst us) := z2 _ _ hl1
          refine ⟨_, rfl, .inl ⟨rfl, _, SqL.of s4⟩, _, rfl, l0, us, y, rfl, rfl, s4, Nat.lt_of_le_of_lt hul (by rw [sizeLine_eq]; omega), ?_⟩
          refine ⟨_, _, rfl, Same.upd_after (Same.trans z z2) hl0, ?_, (hys1.mono z2).updL s4, upd_same, ?_⟩
          · rw [upd_ne npl]
            exact z2 _ _ hp1
          · rw [greedy_take hcc, KM.step_neg hf]
            exact TSs.snoc ((hus.mono z2).updL s4) ((hyc.mono z2).updL s4)
    · rintro σ H1 ⟨us, v, rfl, z, hp1, hys1, hl1, hus⟩
      rw [hys.len, List.take_length] at hus
      exact ⟨_, rfl, q _ l0 z ⟨us, hl1, hus⟩⟩

theorem scDual : FnScope ["names", "sets", "wanted"] ["names", "sets"] (defScope sDualSets) := ⟨rfl, rfl, rfl, by decide +kernel, rfl, by decide +kernel, by decide +kernel⟩
theorem allS_le {N : List Str} (h : N.length ≤ 6) : (KM.allS rle N).length ≤ 64 := by
  rw [KM.allS_length]
  exact Nat.pow_le_pow_right (by decide) h
theorem ok_dual (F : Fun K "dual_sets" "dual_sets" sDualSets f fd) (T : Txt K mg) (G_all_sets : DAll P w K mg base) (G_minimal_sets : DMini P w K mg base) (G_meets_all : DMeets P w K mg base) : FnOk P w K mg base CX0 3 f fd ["names", "sets"] spDual := by
  refine F.ok scDual (fun vs H Q E h => ?_) (fun cdv A outer s H vs Q E hr h => ?_)
  · obtain ⟨a, t, N, F, rfl, _⟩ := h
    rfl
  · obtain ⟨a, t, N, L, rfl, hN, hL, hl, hlL, q⟩ := h
    refine ⟨_, (pss_one (ps_ret (pe_call G_minimal_sets.ok (hr.mono (by decide)) rfl G_minimal_sets.m G_minimal_sets.kp G_minimal_sets.b .nil pass0 (pa_cons (pe_lc (own := [("wanted", 2)]) (g := gName 2) rfl scDual.nd (pi_listK K rfl (pe_call G_all_sets.ok (hr.mono (by decide)) rfl G_all_sets.m G_all_sets.kp G_all_sets.b .nil pass0 (pa_cons (pv 0) pa_nil))) (blkOk_by (own := [("wanted", 2)]) (N := ["names", "sets", "wanted"]) (sc := defScope sDualSets) (by decide +kernel)) (fun _ _ _ _ _ => pg_name (i := 2) scDual.nd rfl (Or.inl rfl)) (fun _ _ _ _ _ => pts_one (pt_val (pe_call G_meets_all.ok (hr.mono (by decide)) rfl G_meets_all.m G_meets_all.kp G_meets_all.b .nil pass0 (pa_cons (pv 2) (pa_cons (pv 1) pa_nil))))) (fun _ _ _ _ _ => (pv 2))) pa_nil)))), ?_⟩
    refine ⟨_, rfl, a, N, rfl, hN, hl, fun H1 p s1 ⟨vs, hp, hvs⟩ => ?_⟩
    have hvl : vs.length ≤ 64 := by rw [hvs.len]; exact allS_le hl
    have hm : ∀ c ∈ KM.allS rle N, c.length ≤ 64 := fun c h => by
      have := (KM.mem_allS.mp h).length_le
      omega
    refine ⟨p, rfl, ⟨_, SqL.of hp⟩, fun D hD => ?_⟩
    refine lc_list (K := K) (xs := vs) (CI _ D fun j H acc => TSs H acc (((KM.allS rle N).take j).filter (KM.meets L))) (CI.start hD .nil) (fun j H _ z => SqL.of (z.1 _ _ hp)) ?_ ?_
    · rintro j x H2 hj ⟨z2, acc, hD2, hal, hacc⟩
      obtain ⟨c, hc, hx⟩ := hvs.get hj
      have hjl : j < sizeLine := by
        have := (List.getElem?_eq_some_iff.mp hj).1
        have := w64 hvl
        omega
      refine ⟨rfl, _, rfl, _, rfl, x, t, c, L, rfl, hx.mono z2, (hL.mono s1).mono z2, hm c (List.mem_of_getElem? hc), hlL, fun H3 s3 => ⟨_, rfl, ?_⟩⟩
      by_cases hmc : KM.meets L c = true
      · rw [hmc]
        refine ⟨_, rfl, CI.more hD hjl (Same.trans z2 s3) (s3 _ _ hD2) hal ?_⟩
        rw [take_snoc hc, List.filter_append, show [c].filter (KM.meets L) = [c] by simp [hmc]]
        exact TSs.snoc ((hacc.mono s3).updL (s3 _ _ hD2)) (((hx.mono z2).mono s3).updL (s3 _ _ hD2))
      · rw [Bool.eq_false_iff.mpr hmc]
        refine iteF (CI.skip (Same.trans z2 s3) (s3 _ _ hD2) hal ?_)
        rw [take_snoc hc, List.filter_append, show [c].filter (KM.meets L) = [] by simp [hmc]]
        simpa using hacc.mono s3
    · rintro H2 ⟨z2, acc, hD2, hal, hacc⟩
      rw [hvs.len, List.take_length] at hacc
      have hfl : ((KM.allS rle N).filter (KM.meets L)).length ≤ 4096 := by
        have := List.length_filter_le (KM.meets L) (KM.allS rle N)
        have := allS_le hl
        omega
      exact ⟨D, _, rfl, ⟨acc, hD2, hacc⟩, hfl, fun c h => hm c (List.mem_filter.mp h).1, fun H3 r s3 hr3 => q _ r (Same.trans s1 (Same.trans z2 s3)) hr3⟩
end
end L2.K25

namespace L2.K25
open PySem PySem.Spec PyProof.Rows
/-! An unbound __init__ by an own class; a method called where what it raises is told by the slots. -/
/-- what the written part says of UnlikeOutcomes, at C, over ChooserError, at B -/
structure ExT (K : PySem.W.Frag) (mg : Str → Option Value) where
  C : Addr
  B : Addr
  f : Addr
  fd : FuncData
  gC : mg "UnlikeOutcomes" = some (.ref C)
  gB : mg "ChooserError" = some (.ref B)
  ox : OexC K C
  xf : XfC K C
  noN : PySem.W.findIn K (.ref C) "names" = some none
  iC : PySem.W.findIn K (.ref C) "__init__" = some (some (.ref f))
  tI : PySem.W.typeIn K (.ref f) = some (.type "function")
  te : PySem.W.exmOne K (.ref C) (.ref C) = some true
  sB : PySem.W.specialIn K (.ref B) "__getattribute__" = some (some (.builtin "type.__getattribute__"))
  tB : PySem.W.typeIn K (.ref B) = some (.type "type")
  rB : PySem.W.readsIn K B (.type "type") = true
  vB : PySem.W.findCls K (.ref B) (.type "type") "__init__" = some (.val (.builtin "ValueError.__init__"))
  F : Fun K "__init__" "UnlikeOutcomes.__init__" sUnlike f fd
  b : Binds K fd ["self", "names"] []
section
variable {X : Cx} {e : Expr} {es : List Expr} {ta : TA} {p1 p2 pos : Pos} {x : Str} {B : Addr}
/-- B.__init__(self, ..), B an own class whose __init__ is ValueError's -/
theorem pe_cinit {pl : Sem Bool} (K : PySem.W.Frag) (hK : X.K = K) (hg : Gl X x) (hm : X.mg x = some (.ref B)) (sB : PySem.W.specialIn X.K (.ref B) "__getattribute__" = some (some (.builtin "type.__getattribute__"))) (tB : PySem.W.typeIn X.K (.ref B) = some (.type "type"))
    (rB : PySem.W.readsIn X.K B (.type "type") = true) (vB : PySem.W.findCls X.K (.ref B) (.type "type") "__init__" = some (.val (.builtin "ValueError.__init__"))) (ha : PA X (e :: es) ta) (hdb : (x == ("__debug__" : Str)) = false := by decide)
    (hc : eval (.Call (.Attribute (.Name x p1) "__init__" p2) (e :: es) [] pos) X.env = (do
      let ov ← eval (.Name x p1) X.env
      standAt p2.atName
      let (f, first) ← holding [ov] (getMethod ov "__init__" pl)
      callWith pos f first (backTo pos (starEach (e :: es) X.env)) (backToKw pos (keywordEach [] X.env))) := by rfl)
    (he : starEach (e :: es) X.env = (false, eval e X.env) :: starEach es X.env := by rfl) (hpl : (backTo pos (starEach es X.env)).any (·.1) = false := by rfl) :
    PE X (.Call (.Attribute (.Name x p1) "__init__" p2) (e :: es) [] pos) (tVeI K ta) := by
  subst hK
  refine ⟨fun pins s σ H Q I h => ?_⟩
  refine PySem.W.methodCall_KW (pl := pl) (ld_glob I hg hm ?_ hdb) hc
  obtain ⟨m, fr⟩ := I.fr
  refine PySem.W.method_of_cls fr I.ok.mod.kin sB (PySem.W.cls_val fr I.ok.mod.kin tB rB vB (by decide +kernel) ?_)
  show wpAny _ _ (callWith pos (Value.builtin "ValueError.__init__") [] (backTo pos (starEach (e :: es) X.env)) []) _ _ _
  refine PyProof.Rows.callWith_method1 (thn (ha.run pos pins _ σ H _ (I.tok _) h) fun us s1 ⟨vs, H1, I1, r1, a, C, ws, ev, hl, T, ea, q⟩ => ?_) he hpl
  subst ev
  cases r1 with
  | @cons _ u0 _ ur ra rw' =>
    obtain rfl : u0 = Value.ref a := ra
    exact oinit_ok T I1 ea (by rw [← Paired.length rw', sizeLine_eq]; omega) fun s' J => ⟨.non, H1, J, rfl, q⟩
end
section
variable {X : Cx} {CX : CXT} {k : Nat} {C g : Addr} {fd : FuncData} {ps : List Str} {sp : Sp} {E : St → XK} {o e : Expr} {m : Str} {apos pos : Pos} {ta tb : TE}
/-- o.m(e), where what is raised is told by the slots -/
def tMethE (C : Addr) (m : Str) (sp : Sp) (E : St → XK) (ta tb : TE) : TE := fun σ H Q => ta σ H fun x H1 => ∃ (p dx : Addr) (fs : List (Str × V)), x = .ref p ∧ H1 p = some (.ins C dx fs) ∧ fs.lookup m = none ∧
  tb σ H1 fun y H2 => sp [x, y] H2 Q (E σ)
theorem pe_methE {pl : Sem Bool} (he : PE X o ta) (c : Cls X.K C) (hm : Meth X.K C m g) (F : FnOk X.prog X.w X.K X.mg X.base CX k g fd ps sp) (hr : Room k X.A) (hb : Binds X.K fd ps []) (hx : ∀ σ, PassesAt CX X σ (E σ)) (ha : PE X e tb)
    (hst : starEach [e] X.env = (false, eval e X.env) :: starEach [] X.env := by rfl) (hpl : (backTo pos (starEach [] X.env)).any (·.1) = false := by rfl)
    (ht : eval (.Call (.Attribute o m apos) [e] [] pos) X.env = (do
      let ov ← eval o X.env
      standAt apos.atName
      let (f, first) ← holding [ov] (getMethod ov m pl)
      callWith pos f first (backTo pos (starEach [e] X.env)) (backToKw pos (keywordEach [] X.env))) := by rfl) :
    PE X (.Call (.Attribute o m apos) [e] [] pos) (tMethE C m sp E ta tb) := by
  refine ⟨fun pins s σ H Q I h => ?_⟩
  refine PySem.W.methodCall_KW (pl := pl) (thn (he.run pins s σ H _ I h) fun u s1 ⟨x, H1, I1, rx, p, dx, fs, ex, ea, l, q⟩ => ?_) ht
  subst ex
  obtain rfl : u = Value.ref p := rx
  refine getmeth_ok I1 ea c hm l ?_
  have pa : PA X [e] (tCons tb tNil) := pa_cons ha pa_nil hst
  refine PySem.W.callWith_K (first := [.ref p]) (h₀ := X.base) I.ok.mod.kin hm.kp (thn (pa.run pos pins s1 σ H1 (fun zs H2 => sp (.ref p :: zs) H2 Q (E σ)) I1 q) fun us s2 ⟨vs, H2, I2, r, q2⟩ => ⟨I2.kIn, ?_⟩) hst hpl
  exact run_fnS (us := .ref p :: us) (vs := .ref p :: vs) F hr hb (hx σ) I2 (.cons rfl r) q2
theorem passAtL {X : Cx} {σ : St} : PassesAt (L2.CX X.prog X.w) X σ E0 := fun pins H s e s' I h => passL pins σ H s e s' I h
theorem call_isiN (K : PySem.W.Frag) (hK : X.K = K) : CallR X (.builtin "isinstance") (rIsi K) := hK ▸ call_isi
end
/-! ### the making of UnlikeOutcomes -/
def spU (K : PySem.W.Frag) (C : Addr) : Sp := fun vs H Q _ => ∃ a y, vs = [.ref a, y] ∧ OexC K C ∧ PySem.W.findIn K (.ref C) "names" = some none ∧ H a = some (exo a C none) ∧
  ∀ dx, H dx = none → dx ≠ a → Q .non (upd (upd H dx (exd dx [("names", y)])) a (exo a C (some dx)))
theorem scU : FnScope ["self", "names"] ["self", "names"] (defScope sUnlike) := ⟨rfl, rfl, rfl, by decide +kernel, rfl, by decide +kernel, by decide +kernel⟩
section
variable {P : Program} {w : World} {K : PySem.W.Frag} {mg : Str → Option Value} {base : Heap}
theorem ok_unlike (Y : ExT K mg) : FnOk P w K mg base CX0 1 Y.f Y.fd ["self", "names"] (spU K Y.C) := by
  refine Y.F.ok scU (fun vs H Q E h => ?_) (fun cdv A outer s H vs Q E hr h => ?_)
  · obtain ⟨a, y, rfl, _⟩ := h
    rfl
  · obtain ⟨a, y, rfl, T, hn, ha, q⟩ := h
    refine ⟨_, pss_cons (ps_expr (pe_cinit K rfl rfl Y.gB Y.sB Y.tB Y.rB Y.vB (pa_cons (pv 0) (pa_cons pe_str pa_nil)))) (pss_one (ps_ost (pv 0) (pv 1))), ?_⟩
    refine ⟨_, rfl, a, Y.C, [_], rfl, by decide, T, ha, ?_⟩
    exact ⟨_, rfl, _, rfl, a, Y.C, rfl, T, hn, .inl ⟨ha, fun dx hd hne => q dx hd hne⟩⟩
end
end L2.K25

namespace L2.K25
open PySem PySem.Spec PyProof.Rows
/-! sorted names -/
def leS (a b : Str) : Prop := ltCps b.cps.toList a.cps.toList = false
theorem lt_trans : ∀ {a b c : List Nat}, ltCps a b = true → ltCps b c = true → ltCps a c = true := by
  intro a b c h1 h2
  rw [ltCps_eq, decide_eq_true_eq] at *
  exact List.lt_trans h1 h2
theorem lt_tri : ∀ a b : List Nat, ltCps a b = true ∨ a = b ∨ ltCps b a = true
  | [], [] => .inr (.inl rfl)
  | [], _ :: _ => .inl rfl
  | _ :: _, [] => .inr (.inr rfl)
  | a :: r, b :: t => by
    unfold ltCps
    rcases Nat.lt_trichotomy a b with h | h | h
    · left; simp [h]
    · subst h
      rcases lt_tri r t with q | q | q
      · left; simp [q]
      · right; left; rw [q]
      · right; right; simp [q]
    · right; right; simp [h]
theorem lt_irr : ∀ a : List Nat, ltCps a a = false
  | [] => rfl
  | a :: r => by
    unfold ltCps
    simp [lt_irr r]
theorem str_of {a b : Str} (h : a.cps.toList = b.cps.toList) : a = b := by
  cases a; cases b
  simp only at h
  congr 1
  exact Array.toList_inj.mp h
theorem leS_refl (a : Str) : leS a a := lt_irr _
theorem leS_trans {a b c : Str} (h1 : leS a b) (h2 : leS b c) : leS a c := by
  unfold leS at *
  cases e : ltCps c.cps.toList a.cps.toList with
  | false => rfl
  | true =>
    rcases lt_tri a.cps.toList b.cps.toList with q | q | q
    · have := lt_trans e q
      rw [this] at h2
      cases h2
    · rw [← q, e] at h2
      cases h2
    · rw [q] at h1
      cases h1
theorem leS_anti {a b : Str} (h1 : leS a b) (h2 : leS b a) : a = b := by
  unfold leS at *
  rcases lt_tri a.cps.toList b.cps.toList with q | q | q
  · rw [q] at h2
    cases h2
  · exact str_of q
  · rw [q] at h1
    cases h1
theorem rising_pw : ∀ (l : List Str) (p : Str), risingS p l = true → (p :: l).Pairwise leS
  | [], p, _ => by simp
  | x :: r, p, h => by
    unfold risingS at h
    rw [Bool.and_eq_true, Bool.not_eq_true'] at h
    have ih := rising_pw r x h.2
    rw [List.pairwise_cons]
    refine ⟨fun y hy => ?_, ih⟩
    rcases List.mem_cons.mp hy with e | e
    · rw [e]; exact h.1
    · exact leS_trans h.1 ((List.pairwise_cons.mp ih).1 y e)
theorem sorted_pw {l : List Str} (h : sortedS l = true) : l.Pairwise leS := by
  cases l with
  | nil => exact .nil
  | cons x r => exact rising_pw r x h
theorem pw_perm : ∀ {l m : List Str}, l.Pairwise leS → m.Pairwise leS → l.Perm m → l = m
  | [], m, _, _, p => by rw [List.Perm.nil_eq p]
  | a :: l, [], _, _, p => by have := p.length_eq; simp at this
  | a :: l, b :: m, hl, hm, p => by
    rw [List.pairwise_cons] at hl hm
    have e : a = b := by
      have ha : a ∈ b :: m := p.mem_iff.mp List.mem_cons_self
      have hb : b ∈ a :: l := p.mem_iff.mpr List.mem_cons_self
      rcases List.mem_cons.mp ha with h | h
      · exact h
      rcases List.mem_cons.mp hb with h' | h'
      · exact h'.symm
      exact leS_anti (hl.1 b h') (hm.1 a h)
    subst e
    rw [pw_perm hl.2 hm.2 (List.Perm.cons_inv p)]
theorem sorted_perm {l m : List Str} (hl : sortedS l = true) (hm : sortedS m = true) (p : l.Perm m) : l = m := pw_perm (sorted_pw hl) (sorted_pw hm) p
/-- two rows without repetition that have the same members -/
theorem perm_of_mem {l m : List Str} (hl : l.Nodup) (hm : m.Nodup) (h : ∀ x, x ∈ l ↔ x ∈ m) : l.Perm m := (List.perm_ext_iff_of_nodup hl hm).mpr h
/-- names of a power -/
structure NmOk (N : List Str) : Prop where
  srt : sortedS N = true
  nd : N.Nodup
  lo : 1 ≤ N.length
  hi : N.length ≤ 6
  vn : ∀ x ∈ N, VN x
/-- the union of two sets, sorted -/
theorem join_sorted {N a b ys l : List Str} (ok : NmOk N) (ha : a.Sublist N) (hb : b.Sublist N) (hm : ∀ x, x ∈ l ↔ x ∈ a ++ b) (hp : ys.Perm l) (nd : l.Nodup) (hs : sortedS ys = true) : ys = KM.joinN N a b := by
  have hj : (KM.joinN N a b).Sublist N := KM.joinN_sub N a b
  refine pw_perm (sorted_pw hs) ((sorted_pw ok.srt).sublist hj) (hp.trans (perm_of_mem nd (hj.nodup ok.nd) fun x => ?_))
  rw [hm x, List.mem_append]
  unfold KM.joinN
  rw [List.mem_filter]
  constructor
  · intro h
    refine ⟨h.elim (fun z => ha.subset z) fun z => hb.subset z, ?_⟩
    rcases h with z | z <;> simp [z]
  · rintro ⟨_, h⟩
    simpa using h
end L2.K25

namespace L2.K25
open PySem PySem.Spec PyProof.Rows
/-! The class Power: what stands in the text; a power on the heap; its making. -/
structure PwT (K : PySem.W.Frag) (mg : Str → Option Value) where
  C : Addr
  f : Addr
  mk_ : Mk K C f
  cl : Cls K C
  nN : NoAttr K C "names"
  nL : NoAttr K C "least"
  mgC : mg "Power" = some (.ref C)
  sf : PySem.W.selfFirst K C = true
  nf : PySem.W.notFirst K C (.ref C) = true
  ne : PySem.W.findIn K (.ref C) "__ne__" = some (some (.builtin "object.__ne__"))
  ob : PySem.W.mroIn K C (.type "object") = some true
  iA : PySem.W.findIn K (.ref C) "__class__" = some (some (.builtin "object.__class__"))
  iN : PySem.W.specialIn K (.builtin "object.__class__") "__get__" = some (some (.builtin "getset_descriptor.__get__"))
  iT : PySem.W.takesIn K (.builtin "object.__class__") = some true
  ki : PySem.W.kitOne K (.ref C) (.ref C) = some true
structure DProp (P : Program) (w : World) (K : PySem.W.Frag) (mg : Str → Option Value) (base : Heap) (C : Addr) (k : Nat) (f : Str) (sp : Sp) where
  p : Addr
  g : Addr
  fd : FuncData
  pr : PropOf K C f p g
  b : Binds K fd ["self"] []
  ok : FnOk P w K mg base CX0 k g fd ["self"] sp
structure DMeth (P : Program) (w : World) (K : PySem.W.Frag) (mg : Str → Option Value) (base : Heap) (C : Addr) (CX : CXT) (k : Nat) (m : Str) (ps : List Str) (sp : Sp) where
  f : Addr
  fd : FuncData
  mt : Meth K C m f
  b : Binds K fd ps []
  ok : FnOk P w K mg base CX k f fd ps sp
structure DInit (P : Program) (w : World) (K : PySem.W.Frag) (mg : Str → Option Value) (base : Heap) (f : Addr) (sp : Sp) where
  fd : FuncData
  b : Binds K fd ["self", "outcomes", "sets"] []
  ok : FnOk P w K mg base CX0 3 f fd ["self", "outcomes", "sets"] sp
theorem nl_ : ¬ (("names" : Str) = "least") := by decide +kernel
/-- a power's attributes -/
def pwf (n t : Addr) : List (Str × V) := putF "least" (.ref t) (putF "names" (.ref n) [])
theorem pwf_names (n t : Addr) : (pwf n t).lookup ("names" : Str) = some (.ref n) := by
  unfold pwf
  rw [lookup_putF, if_neg nl_, lookup_putF, if_pos rfl]
theorem pwf_least (n t : Addr) : (pwf n t).lookup ("least" : Str) = some (.ref t) := by
  unfold pwf
  rw [lookup_putF, if_pos rfl]
theorem pwf_no (n t : Addr) {m : Str} (h1 : ¬ m = "least") (h2 : ¬ m = "names") : (pwf n t).lookup m = none := by
  unfold pwf
  rw [lookup_putF, if_neg h1, lookup_putF, if_neg h2]
  all_goals rfl
/-- at v stands a power over the names N with the least sets L -/
def PowAt (C : Addr) (H : Hp) (v : V) (N : List Str) (L : List (List Str)) : Prop := ∃ p dx n t, v = .ref p ∧ H p = some (.ins C dx (pwf n t)) ∧ TNm H n N ∧ TsA H t L
theorem PowAt.mono {C : Addr} {H H' : Hp} {v : V} {N : List Str} {L : List (List Str)} (s : Same H H') (h : PowAt C H v N L) : PowAt C H' v N L := by
  obtain ⟨p, dx, n, t, rfl, hp, hn, ht⟩ := h
  exact ⟨p, dx, n, t, rfl, s _ _ hp, s _ _ hn, ht.mono s⟩
/-- what a power's sets are like -/
structure PL (N : List Str) (L : List (List Str)) : Prop where
  ok : NmOk N
  ne : L ≠ []
  sb : ∀ c ∈ L, c.Sublist N ∧ c ≠ []
  len : L.length ≤ 64
theorem PL.le {N : List Str} {L : List (List Str)} (h : PL N L) {c : List Str} (hc : c ∈ L) : c.length ≤ 64 := by
  have := (h.sb c hc).1.length_le
  have := h.ok.hi
  omega
/-! an instance is changed: lists and tuples stand -/
section
variable {H : Hp} {a b C dx : Addr} {fs : List (Str × V)} {o : HO} {v : V} {c : List Str} {F : List (List Str)} {vs : List V}
theorem tup_ins (h : H a = some (.ins C dx fs)) {xs : List V} (e : H b = some (.tup xs)) : upd H a o b = some (.tup xs) := by rw [upd_ne (ne_of e h (by intro z; cases z))]; exact e
theorem lst_ins (h : H a = some (.ins C dx fs)) {xs : List V} (e : H b = some (.lst xs)) : upd H a o b = some (.lst xs) := by rw [upd_ne (ne_of e h (by intro z; cases z))]; exact e
theorem TS.insU (h : H a = some (.ins C dx fs)) (e : TS H v c) : TS (upd H a o) v c := let ⟨b, r, e⟩ := e; ⟨b, r, tup_ins h e⟩
theorem TSs.insU (h : H a = some (.ins C dx fs)) (e : TSs H vs F) : TSs (upd H a o) vs F := Paired.mapP e fun _ _ r => r.insU h
end
/-! promises -/
def Names3 (H : Hp) (o s : Addr) (N : List Str) (F : List (List Str)) : Prop := (LNm H o N ∧ LsA H s F) ∨ (TNm H o N ∧ LsA H s F) ∨ (TNm H o N ∧ TsA H s F)
def spInit (C : Addr) : Sp := fun vs H Q _ => ∃ a dx o s N F, vs = [.ref a, .ref o, .ref s] ∧ H a = some (.ins C dx []) ∧ Names3 H o s N F ∧ NmOk N ∧ F ≠ [] ∧ F.length ≤ 4096 ∧ (∀ c ∈ F, c.Sublist N ∧ c ≠ []) ∧
  ∀ H' n t, (∀ b o, b ≠ a → H b = some o → H' b = some o) → H' a = some (.ins C dx (pwf n t)) → TNm H' n N → TsA H' t (KM.mini rle F) → Q .non H'
def spLike (C CU : Addr) : Sp := fun vs H Q E => ∃ u v N M L L', vs = [u, v] ∧ PowAt C H u N L ∧ PowAt C H v M L' ∧ (N = M → Q .non H) ∧
  (N ≠ M → ∀ d H' y, Same H H' → H' d = some (.xd [("names", y)]) → TS H' y M → E (.ref CU) (some d) H')

section
variable {P : Program} {w : World} {K : PySem.W.Frag} {mg : Str → Option Value} {base : Heap} {f : Addr} {fd : FuncData}
abbrev DOut (P w K mg base C) := DProp P w K mg base C 1 "outcomes" (getSp C "names")
abbrev DSets (P w K mg base C) := DProp P w K mg base C 1 "sets" (getSp C "least")
abbrev DLike (P w K mg base C CU) := Df P w K mg base (L2.CX P w) 3 "check_like" sCheckLike ["one", "other"] (spLike C CU)
theorem scLike : FnScope ["one", "other"] ["one", "other"] (defScope sCheckLike) := ⟨rfl, rfl, rfl, by decide +kernel, rfl, by decide +kernel, by decide +kernel⟩
theorem ok_like (F : Fun K "check_like" "check_like" sCheckLike f fd) (Z : PwT K mg) (Y : ExT K mg) (G_outcomes : DOut P w K mg base Z.C) : FnOk P w K mg base (L2.CX P w) 3 f fd ["one", "other"] (spLike Z.C Y.C) := by
  have GU : FnOk P w K mg base CX0 1 Y.f Y.fd ["self", "names"] (spU K Y.C) := ok_unlike Y
  refine F.okX scLike (fun vs H Q E h => ?_) (fun cdv A outer s H vs Q E hr h => ?_)
  · obtain ⟨u, v, N, M, L, L', rfl, _⟩ := h
    rfl
  · obtain ⟨u, v, N, M, L, L', rfl, ⟨p, dx, n, t, rfl, hp, hn, ht⟩, ⟨p', dx', n', t', rfl, hp', hn', ht'⟩, q1, q2⟩ := h
    refine ⟨_, (pss_one (ps_if (pt_cmpR (op_nePK K rfl hr.units) (pe_prop (pv 0) Z.cl G_outcomes.pr G_outcomes.ok (hr.mono (by decide)) G_outcomes.b .nil pass0 rfl) (pe_prop (pv 1) Z.cl G_outcomes.pr G_outcomes.ok (hr.mono (by decide)) G_outcomes.b .nil pass0 rfl) (nomark _)) (pss_one (ps_raise rfl (takes_of rfl rfl rfl rfl) (pmk_oex Y.ox Y.iC Y.tI GU (hr.mono (by decide)) Y.b .nil (fun _ _ _ _ _ _ _ h => h.elim) rfl Y.gC (pa_cons (pe_prop (pv 1) Z.cl G_outcomes.pr G_outcomes.ok (hr.mono (by decide)) G_outcomes.b .nil pass0 rfl) pa_nil)))) pss_nil)), ?_⟩
    refine ⟨_, rfl, p, dx, _, rfl, hp, p, dx, _, _, rfl, hp, pwf_names _ _, ?_⟩
    refine ⟨_, rfl, p', dx', _, rfl, hp', p', dx', _, _, rfl, hp', pwf_names _ _, ?_⟩
    refine neT hn.ts hn'.ts ⟨_, rfl, ?_⟩
    by_cases e : N = M
    · rw [decide_eq_true e]
      exact q1 e
    · rw [decide_eq_false e]
      refine ⟨_, rfl, p', dx', _, rfl, hp', p', dx', _, _, rfl, hp', pwf_names _ _, (by show 1 ≤ 1000; decide), fun a ha => ?_⟩
      refine ⟨a, .ref n', rfl, Y.ox, Y.noN, upd_same, fun d hd hne => ⟨rfl, d, [("names", V.ref n')], upd_same, ?_, ?_, ?_⟩⟩
      · rw [upd_ne hne, upd_same]
      · rw [upd_ne hne] at hd
        exact hd
      · have hd0 : H d = none := by rw [upd_ne hne] at hd; exact hd
        have sm : Same H (upd (del (upd (upd (upd H a (exo a Y.C none)) d (exd d [("names", V.ref n')])) a (exo a Y.C (some d))) a) d (.xd [("names", V.ref n')])) := fun b o eb => by
          rw [upd_ne (ne_of_none eb hd0), del_ne (ne_of_none eb ha), upd_ne (ne_of_none eb ha), upd_ne (ne_of_none eb hd0), upd_ne (ne_of_none eb ha)]
          exact eb
        exact q2 e d _ (.ref n') sm upd_same (hn'.ts.mono sm)
end
end L2.K25

namespace L2.K25
open PySem PySem.Spec PyProof.Rows
/-! Power.__init__ -/
section
variable {P : Program} {w : World} {K : PySem.W.Frag} {mg : Str → Option Value} {base : Heap} {f : Addr} {fd : FuncData}
theorem scInit : FnScope ["self", "outcomes", "sets", "wanted"] ["self", "outcomes", "sets"] (defScope sPowerInit) := ⟨rfl, rfl, rfl, by decide +kernel, rfl, by decide +kernel, by decide +kernel⟩
theorem ok_init (F : Fun K "__init__" "Power.__init__" sPowerInit f fd) (T : Txt K mg) (Z : PwT K mg) (G_check_number : DNumber P w K mg base) (G_check_different : DDiff P w K mg base) (G_is_set : DIsSet P w K mg base) (G_minimal_sets : DMini P w K mg base) :
    FnOk P w K mg base CX0 3 f fd ["self", "outcomes", "sets"] (spInit Z.C) := by
  refine F.ok scInit (fun vs H Q E h => ?_) (fun cdv A outer s H vs Q E hr h => ?_)
  · obtain ⟨a, dx, o, s, N, F, rfl, _⟩ := h
    rfl
  · obtain ⟨a, dx, o, st, N, L, rfl, ha, hNL, ok, hne, hlL, hL, q⟩ := h
    have hN1 : (1 : Int) ≤ (((N.map V.str).length : Nat) : Int) := by rw [List.length_map]; have := ok.lo; omega
    have hN6 : (((N.map V.str).length : Nat) : Int) ≤ 6 := by rw [List.length_map]; have := ok.hi; omega
    have hN64 : N.length ≤ 64 := by have := ok.hi; omega
    rcases hNL with ⟨hO, hS⟩ | ⟨hO, hS⟩ | ⟨hO, hS⟩
    · obtain ⟨us, hsu, hus⟩ := hS
      have husl : us.length ≤ 4096 := by rw [hus.len]; exact hlL
      refine ⟨_, (pss_cons (ps_expr (pe_call G_check_number.ok (hr.mono (by decide)) rfl G_check_number.m G_check_number.kp G_check_number.b .nil pass0 (pa_cons (pe_callB (call_lenK K rfl) (by rfl) T.b_len (by decide +kernel) (pa_cons (pv 1) pa_nil)) pa_nil))) (pss_cons (ps_expr (pe_call G_check_different.ok (hr.mono (by decide)) rfl G_check_different.m G_check_different.kp G_check_different.b .nil pass0 (pa_cons (pv 1) pa_nil))) (pss_cons (ps_fld (pv 0) (pe_callTy (call_tupleK K rfl) (by rfl) T.b_tuple (by decide +kernel) (pa_cons (pe_callB (cr_strsK K rfl) (by rfl) T.b_sorted (by decide +kernel) (pa_cons (pv 1) pa_nil)) pa_nil)) rfl) (pss_cons (ps_if (pt_cmpR op_eq (pe_callB (call_lenK K rfl) (by rfl) T.b_len (by decide +kernel) (pa_cons (pv 2) pa_nil)) pe_int (nomark _)) (pss_one ps_never) pss_nil) (pss_cons (ps_for PassesOwn.never rfl (pi_listK K rfl (pv 2)) (pg_name (i := 3) scInit.nd rfl (Or.inl rfl)) (pss_one (ps_if (PW.pt (pw_or (pt_not (pt_val (pe_call G_is_set.ok (hr.mono (by decide)) rfl G_is_set.m G_is_set.kp G_is_set.b .nil pass0 (pa_cons (pe_fld (pv 0) rfl) (pa_cons (pv 3) pa_nil))))) (pw_or1 (pt_cmpR (op_eqPK K rfl hr.units) (pv 3) (pe_tup pa_nil) (nomark _))))) (pss_one ps_never) pss_nil))) (pss_one (ps_fld (pv 0) (pe_callTy (call_tupleK K rfl) (by rfl) T.b_tuple (by decide +kernel) (pa_cons (pe_call G_minimal_sets.ok (hr.mono (by decide)) rfl G_minimal_sets.m G_minimal_sets.kp G_minimal_sets.b .nil pass0 (pa_cons (pe_callTy (call_listK K rfl) (by rfl) T.b_list (by decide +kernel) (pa_cons (pv 2) pa_nil)) pa_nil)) pa_nil)) rfl))))))), ?_⟩
      refine ⟨_, rfl, o, _, rfl, .inl (SqL.of hO), _, rfl, hN1, hN6, ?_⟩
      refine ⟨_, rfl, o, N, rfl, .inl hO, ok.nd, hN64, ok.vn, fun H1 s1 => ?_⟩
      refine ⟨_, rfl, .inl ⟨o, N, rfl, SqL.of (s1 _ _ hO), by have := ok.hi; omega, fun ys p1 hpm hso hp1 => ?_⟩⟩
      have ey : ys = N := sorted_perm hso ok.srt hpm
      subst ey
      refine ⟨p1, _, rfl, .inl ⟨SqL.of upd_same, fun n hn => ?_⟩⟩
      have s2 : Same H (upd (upd H1 p1 (.lst (ys.map V.str))) n (.tup (ys.map V.str))) := Same.trans s1 (Same.trans (same_upd hp1) (same_upd hn))
      have ha2 := s2 _ _ ha
      have hn2 : upd (upd H1 p1 (.lst (ys.map V.str))) n (.tup (ys.map V.str)) n = some (.tup (ys.map V.str)) := upd_same
      have hs2 := s2 _ _ hsu
      have hu2 := hus.mono s2
      generalize upd (upd H1 p1 (.lst (ys.map V.str))) n (.tup (ys.map V.str)) = H2 at s2 ha2 hn2 hs2 hu2 ⊢
      refine ⟨_, rfl, a, Z.C, dx, [], rfl, ha2, Z.cl, Z.nN, (by show 0 < 1000; decide), ?_⟩
      have ha3 : upd H2 a (.ins Z.C dx (putF "names" (.ref n) [])) a = some (.ins Z.C dx (putF "names" (.ref n) [])) := upd_same
      have hn3 : upd H2 a (.ins Z.C dx (putF "names" (.ref n) [])) n = _ := tup_ins ha2 hn2
      have hs3 : upd H2 a (.ins Z.C dx (putF "names" (.ref n) [])) st = _ := lst_ins ha2 hs2
      have hu3 : TSs (upd H2 a (.ins Z.C dx (putF "names" (.ref n) []))) us L := hu2.insU ha2
      have s3 : ∀ b ob, b ≠ a → H b = some ob → upd H2 a (.ins Z.C dx (putF "names" (.ref n) [])) b = some ob := fun b ob hb e => by rw [upd_ne hb]; exact s2 _ _ e
      generalize upd H2 a (.ins Z.C dx (putF "names" (.ref n) [])) = H3 at ha3 hn3 hs3 hu3 s3 ⊢
      refine ⟨_, rfl, st, _, rfl, .inl (SqL.of hs3), rfl, _, rfl, ?_⟩
      have h0 : decide (V.int ((us.length : Nat) : Int) = V.int 0) = false := decide_eq_false fun e => by
        have e1 : ((us.length : Nat) : Int) = 0 := V.int.inj e
        have e2 : us.length = 0 := by omega
        rw [hus.len] at e2
        exact hne (List.eq_nil_of_length_eq_zero e2)
      rw [h0]
      refine iteF ⟨_, rfl, st, rfl, ⟨_, SqL.of hs3⟩, for_list (K := K) (xs := us) (fun i σ H' => (∃ v, σ = [some (.ref a), some (.ref o), some (.ref st), v]) ∧ Same H3 H') ⟨⟨none, rfl⟩, Same.refl _⟩ (fun i σ H' _ z => SqL.of (z.2 _ _ hs3)) ?_ ?_⟩
      · rintro i x σ H4 hi ⟨⟨v, rfl⟩, s4⟩
        obtain ⟨c, hc, hx⟩ := hu3.get hi
        obtain ⟨hcs, hcn⟩ := hL c (List.mem_of_getElem? hc)
        refine ⟨_, rfl, a, Z.C, dx, _, _, rfl, s4 _ _ ha3, Z.cl, Z.nN, ?_, _, rfl, n, x, ys, c, rfl, s4 _ _ hn3, hx.mono s4, ok.nd, hcs, hN64, fun H5 s5 => ⟨true, rfl, ?_⟩⟩
        · rw [lookup_putF, if_pos rfl]
        · refine ⟨_, rfl, Nat.zero_le _, fun e he => ?_⟩
          have s6 : Same H5 (upd H5 e (.tup [])) := same_upd he
          refine eqT (d := []) (((hx.mono s4).mono s5).mono s6) ⟨e, rfl, upd_same⟩ ⟨_, rfl, ?_⟩
          rw [decide_eq_false hcn]
          exact ⟨⟨_, rfl⟩, Same.trans s4 (Same.trans s5 s6)⟩
      · rintro σ H4 ⟨⟨v, rfl⟩, s4⟩
        refine ⟨_, rfl, st, us, rfl, .inl (SqL.of (s4 _ _ hs3)), fun l hl => ?_⟩
        have s5 : Same H4 (upd H4 l (.lst us)) := same_upd hl
        refine ⟨l, L, rfl, ⟨us, upd_same, (hu3.mono s4).mono s5⟩, hlL, fun c hc => ?_, fun H5 m s6 ⟨ms, hm, hms⟩ => ?_⟩
        · have := ((hL c hc).1).length_le
          omega
        · refine ⟨m, ms, rfl, .inl ⟨SqL.of hm, fun t ht => ?_⟩⟩
          have s7 : Same H5 (upd H5 t (.tup ms)) := same_upd ht
          have ha7 : upd H5 t (.tup ms) a = some (.ins Z.C dx (putF "names" (.ref n) [])) := s7 _ _ (s6 _ _ (s5 _ _ (s4 _ _ ha3)))
          have hn7 : upd H5 t (.tup ms) n = some (.tup (ys.map V.str)) := s7 _ _ (s6 _ _ (s5 _ _ (s4 _ _ hn3)))
          refine ⟨_, rfl, a, Z.C, dx, _, rfl, ha7, Z.cl, Z.nL, (by show 1 < 1000; decide), ?_⟩
          refine q _ n t (fun b ob hb e => ?_) upd_same (tup_ins ha7 hn7) ⟨ms, tup_ins ha7 upd_same, (hms.mono s7).insU ha7⟩
          rw [upd_ne hb]
          exact s7 _ _ (s6 _ _ (s5 _ _ (s4 _ _ (s3 b ob hb e))))
    · obtain ⟨us, hsu, hus⟩ := hS
      have husl : us.length ≤ 4096 := by rw [hus.len]; exact hlL
      refine ⟨_, (pss_cons (ps_expr (pe_call G_check_number.ok (hr.mono (by decide)) rfl G_check_number.m G_check_number.kp G_check_number.b .nil pass0 (pa_cons (pe_callB (call_lenK K rfl) (by rfl) T.b_len (by decide +kernel) (pa_cons (pv 1) pa_nil)) pa_nil))) (pss_cons (ps_expr (pe_call G_check_different.ok (hr.mono (by decide)) rfl G_check_different.m G_check_different.kp G_check_different.b .nil pass0 (pa_cons (pv 1) pa_nil))) (pss_cons (ps_fld (pv 0) (pe_callTy (call_tupleK K rfl) (by rfl) T.b_tuple (by decide +kernel) (pa_cons (pe_callB (cr_strsK K rfl) (by rfl) T.b_sorted (by decide +kernel) (pa_cons (pv 1) pa_nil)) pa_nil)) rfl) (pss_cons (ps_if (pt_cmpR op_eq (pe_callB (call_lenK K rfl) (by rfl) T.b_len (by decide +kernel) (pa_cons (pv 2) pa_nil)) pe_int (nomark _)) (pss_one ps_never) pss_nil) (pss_cons (ps_for PassesOwn.never rfl (pi_listK K rfl (pv 2)) (pg_name (i := 3) scInit.nd rfl (Or.inl rfl)) (pss_one (ps_if (PW.pt (pw_or (pt_not (pt_val (pe_call G_is_set.ok (hr.mono (by decide)) rfl G_is_set.m G_is_set.kp G_is_set.b .nil pass0 (pa_cons (pe_fld (pv 0) rfl) (pa_cons (pv 3) pa_nil))))) (pw_or1 (pt_cmpR (op_eqPK K rfl hr.units) (pv 3) (pe_tup pa_nil) (nomark _))))) (pss_one ps_never) pss_nil))) (pss_one (ps_fld (pv 0) (pe_callTy (call_tupleK K rfl) (by rfl) T.b_tuple (by decide +kernel) (pa_cons (pe_call G_minimal_sets.ok (hr.mono (by decide)) rfl G_minimal_sets.m G_minimal_sets.kp G_minimal_sets.b .nil pass0 (pa_cons (pe_callTy (call_listK K rfl) (by rfl) T.b_list (by decide +kernel) (pa_cons (pv 2) pa_nil)) pa_nil)) pa_nil)) rfl))))))), ?_⟩
      refine ⟨_, rfl, o, _, rfl, .inr (SqT.of hO), _, rfl, hN1, hN6, ?_⟩
      refine ⟨_, rfl, o, N, rfl, .inr hO, ok.nd, hN64, ok.vn, fun H1 s1 => ?_⟩
      refine ⟨_, rfl, .inr ⟨o, N, rfl, SqT.of (s1 _ _ hO), by have := ok.hi; omega, fun ys p1 hpm hso hp1 => ?_⟩⟩
      have ey : ys = N := sorted_perm hso ok.srt hpm
      subst ey
      refine ⟨p1, _, rfl, .inl ⟨SqL.of upd_same, fun n hn => ?_⟩⟩
      have s2 : Same H (upd (upd H1 p1 (.lst (ys.map V.str))) n (.tup (ys.map V.str))) := Same.trans s1 (Same.trans (same_upd hp1) (same_upd hn))
      have ha2 := s2 _ _ ha
      have hn2 : upd (upd H1 p1 (.lst (ys.map V.str))) n (.tup (ys.map V.str)) n = some (.tup (ys.map V.str)) := upd_same
      have hs2 := s2 _ _ hsu
      have hu2 := hus.mono s2
      generalize upd (upd H1 p1 (.lst (ys.map V.str))) n (.tup (ys.map V.str)) = H2 at s2 ha2 hn2 hs2 hu2 ⊢
      refine ⟨_, rfl, a, Z.C, dx, [], rfl, ha2, Z.cl, Z.nN, (by show 0 < 1000; decide), ?_⟩
      have ha3 : upd H2 a (.ins Z.C dx (putF "names" (.ref n) [])) a = some (.ins Z.C dx (putF "names" (.ref n) [])) := upd_same
      have hn3 : upd H2 a (.ins Z.C dx (putF "names" (.ref n) [])) n = _ := tup_ins ha2 hn2
      have hs3 : upd H2 a (.ins Z.C dx (putF "names" (.ref n) [])) st = _ := lst_ins ha2 hs2
      have hu3 : TSs (upd H2 a (.ins Z.C dx (putF "names" (.ref n) []))) us L := hu2.insU ha2
      have s3 : ∀ b ob, b ≠ a → H b = some ob → upd H2 a (.ins Z.C dx (putF "names" (.ref n) [])) b = some ob := fun b ob hb e => by rw [upd_ne hb]; exact s2 _ _ e
      generalize upd H2 a (.ins Z.C dx (putF "names" (.ref n) [])) = H3 at ha3 hn3 hs3 hu3 s3 ⊢
      refine ⟨_, rfl, st, _, rfl, .inl (SqL.of hs3), rfl, _, rfl, ?_⟩
      have h0 : decide (V.int ((us.length : Nat) : Int) = V.int 0) = false := decide_eq_false fun e => by
        have e1 : ((us.length : Nat) : Int) = 0 := V.int.inj e
        have e2 : us.length = 0 := by omega
        rw [hus.len] at e2
        exact hne (List.eq_nil_of_length_eq_zero e2)
      rw [h0]
      refine iteF ⟨_, rfl, st, rfl, ⟨_, SqL.of hs3⟩, for_list (K := K) (xs := us) (fun i σ H' => (∃ v, σ = [some (.ref a), some (.ref o), some (.ref st), v]) ∧ Same H3 H') ⟨⟨none, rfl⟩, Same.refl _⟩ (fun i σ H' _ z => SqL.of (z.2 _ _ hs3)) ?_ ?_⟩
      · rintro i x σ H4 hi ⟨⟨v, rfl⟩, s4⟩
        obtain ⟨c, hc, hx⟩ := hu3.get hi
        obtain ⟨hcs, hcn⟩ := hL c (List.mem_of_getElem? hc)
        refine ⟨_, rfl, a, Z.C, dx, _, _, rfl, s4 _ _ ha3, Z.cl, Z.nN, ?_, _, rfl, n, x, ys, c, rfl, s4 _ _ hn3, hx.mono s4, ok.nd, hcs, hN64, fun H5 s5 => ⟨true, rfl, ?_⟩⟩
        · rw [lookup_putF, if_pos rfl]
        · refine ⟨_, rfl, Nat.zero_le _, fun e he => ?_⟩
          have s6 : Same H5 (upd H5 e (.tup [])) := same_upd he
          refine eqT (d := []) (((hx.mono s4).mono s5).mono s6) ⟨e, rfl, upd_same⟩ ⟨_, rfl, ?_⟩
          rw [decide_eq_false hcn]
          exact ⟨⟨_, rfl⟩, Same.trans s4 (Same.trans s5 s6)⟩
      · rintro σ H4 ⟨⟨v, rfl⟩, s4⟩
        refine ⟨_, rfl, st, us, rfl, .inl (SqL.of (s4 _ _ hs3)), fun l hl => ?_⟩
        have s5 : Same H4 (upd H4 l (.lst us)) := same_upd hl
        refine ⟨l, L, rfl, ⟨us, upd_same, (hu3.mono s4).mono s5⟩, hlL, fun c hc => ?_, fun H5 m s6 ⟨ms, hm, hms⟩ => ?_⟩
        · have := ((hL c hc).1).length_le
          omega
        · refine ⟨m, ms, rfl, .inl ⟨SqL.of hm, fun t ht => ?_⟩⟩
          have s7 : Same H5 (upd H5 t (.tup ms)) := same_upd ht
          have ha7 : upd H5 t (.tup ms) a = some (.ins Z.C dx (putF "names" (.ref n) [])) := s7 _ _ (s6 _ _ (s5 _ _ (s4 _ _ ha3)))
          have hn7 : upd H5 t (.tup ms) n = some (.tup (ys.map V.str)) := s7 _ _ (s6 _ _ (s5 _ _ (s4 _ _ hn3)))
          refine ⟨_, rfl, a, Z.C, dx, _, rfl, ha7, Z.cl, Z.nL, (by show 1 < 1000; decide), ?_⟩
          refine q _ n t (fun b ob hb e => ?_) upd_same (tup_ins ha7 hn7) ⟨ms, tup_ins ha7 upd_same, (hms.mono s7).insU ha7⟩
          rw [upd_ne hb]
          exact s7 _ _ (s6 _ _ (s5 _ _ (s4 _ _ (s3 b ob hb e))))
    · obtain ⟨us, hsu, hus⟩ := hS
      have husl : us.length ≤ 4096 := by rw [hus.len]; exact hlL
      refine ⟨_, (pss_cons (ps_expr (pe_call G_check_number.ok (hr.mono (by decide)) rfl G_check_number.m G_check_number.kp G_check_number.b .nil pass0 (pa_cons (pe_callB (call_lenK K rfl) (by rfl) T.b_len (by decide +kernel) (pa_cons (pv 1) pa_nil)) pa_nil))) (pss_cons (ps_expr (pe_call G_check_different.ok (hr.mono (by decide)) rfl G_check_different.m G_check_different.kp G_check_different.b .nil pass0 (pa_cons (pv 1) pa_nil))) (pss_cons (ps_fld (pv 0) (pe_callTy (call_tupleK K rfl) (by rfl) T.b_tuple (by decide +kernel) (pa_cons (pe_callB (cr_strsK K rfl) (by rfl) T.b_sorted (by decide +kernel) (pa_cons (pv 1) pa_nil)) pa_nil)) rfl) (pss_cons (ps_if (pt_cmpR op_eq (pe_callB (call_lenK K rfl) (by rfl) T.b_len (by decide +kernel) (pa_cons (pv 2) pa_nil)) pe_int (nomark _)) (pss_one ps_never) pss_nil) (pss_cons (ps_for PassesOwn.never rfl (pi_tupK K rfl (pv 2)) (pg_name (i := 3) scInit.nd rfl (Or.inl rfl)) (pss_one (ps_if (PW.pt (pw_or (pt_not (pt_val (pe_call G_is_set.ok (hr.mono (by decide)) rfl G_is_set.m G_is_set.kp G_is_set.b .nil pass0 (pa_cons (pe_fld (pv 0) rfl) (pa_cons (pv 3) pa_nil))))) (pw_or1 (pt_cmpR (op_eqPK K rfl hr.units) (pv 3) (pe_tup pa_nil) (nomark _))))) (pss_one ps_never) pss_nil))) (pss_one (ps_fld (pv 0) (pe_callTy (call_tupleK K rfl) (by rfl) T.b_tuple (by decide +kernel) (pa_cons (pe_call G_minimal_sets.ok (hr.mono (by decide)) rfl G_minimal_sets.m G_minimal_sets.kp G_minimal_sets.b .nil pass0 (pa_cons (pe_callTy (call_listK K rfl) (by rfl) T.b_list (by decide +kernel) (pa_cons (pv 2) pa_nil)) pa_nil)) pa_nil)) rfl))))))), ?_⟩
      refine ⟨_, rfl, o, _, rfl, .inr (SqT.of hO), _, rfl, hN1, hN6, ?_⟩
      refine ⟨_, rfl, o, N, rfl, .inr hO, ok.nd, hN64, ok.vn, fun H1 s1 => ?_⟩
      refine ⟨_, rfl, .inr ⟨o, N, rfl, SqT.of (s1 _ _ hO), by have := ok.hi; omega, fun ys p1 hpm hso hp1 => ?_⟩⟩
      have ey : ys = N := sorted_perm hso ok.srt hpm
      subst ey
      refine ⟨p1, _, rfl, .inl ⟨SqL.of upd_same, fun n hn => ?_⟩⟩
      have s2 : Same H (upd (upd H1 p1 (.lst (ys.map V.str))) n (.tup (ys.map V.str))) := Same.trans s1 (Same.trans (same_upd hp1) (same_upd hn))
      have ha2 := s2 _ _ ha
      have hn2 : upd (upd H1 p1 (.lst (ys.map V.str))) n (.tup (ys.map V.str)) n = some (.tup (ys.map V.str)) := upd_same
      have hs2 := s2 _ _ hsu
      have hu2 := hus.mono s2
      generalize upd (upd H1 p1 (.lst (ys.map V.str))) n (.tup (ys.map V.str)) = H2 at s2 ha2 hn2 hs2 hu2 ⊢
      refine ⟨_, rfl, a, Z.C, dx, [], rfl, ha2, Z.cl, Z.nN, (by show 0 < 1000; decide), ?_⟩
      have ha3 : upd H2 a (.ins Z.C dx (putF "names" (.ref n) [])) a = some (.ins Z.C dx (putF "names" (.ref n) [])) := upd_same
      have hn3 : upd H2 a (.ins Z.C dx (putF "names" (.ref n) [])) n = _ := tup_ins ha2 hn2
      have hs3 : upd H2 a (.ins Z.C dx (putF "names" (.ref n) [])) st = _ := tup_ins ha2 hs2
      have hu3 : TSs (upd H2 a (.ins Z.C dx (putF "names" (.ref n) []))) us L := hu2.insU ha2
      have s3 : ∀ b ob, b ≠ a → H b = some ob → upd H2 a (.ins Z.C dx (putF "names" (.ref n) [])) b = some ob := fun b ob hb e => by rw [upd_ne hb]; exact s2 _ _ e
      generalize upd H2 a (.ins Z.C dx (putF "names" (.ref n) [])) = H3 at ha3 hn3 hs3 hu3 s3 ⊢
      refine ⟨_, rfl, st, _, rfl, .inr (SqT.of hs3), rfl, _, rfl, ?_⟩
      have h0 : decide (V.int ((us.length : Nat) : Int) = V.int 0) = false := decide_eq_false fun e => by
        have e1 : ((us.length : Nat) : Int) = 0 := V.int.inj e
        have e2 : us.length = 0 := by omega
        rw [hus.len] at e2
        exact hne (List.eq_nil_of_length_eq_zero e2)
      rw [h0]
      refine iteF ⟨_, rfl, st, rfl, ⟨_, SqT.of hs3⟩, for_tup (K := K) (xs := us) (fun i σ H' => (∃ v, σ = [some (.ref a), some (.ref o), some (.ref st), v]) ∧ Same H3 H') ⟨⟨none, rfl⟩, Same.refl _⟩ (fun i σ H' _ z => SqT.of (z.2 _ _ hs3)) ?_ ?_⟩
      · rintro i x σ H4 hi ⟨⟨v, rfl⟩, s4⟩
        obtain ⟨c, hc, hx⟩ := hu3.get hi
        obtain ⟨hcs, hcn⟩ := hL c (List.mem_of_getElem? hc)
        refine ⟨_, rfl, a, Z.C, dx, _, _, rfl, s4 _ _ ha3, Z.cl, Z.nN, ?_, _, rfl, n, x, ys, c, rfl, s4 _ _ hn3, hx.mono s4, ok.nd, hcs, hN64, fun H5 s5 => ⟨true, rfl, ?_⟩⟩
        · rw [lookup_putF, if_pos rfl]
        · refine ⟨_, rfl, Nat.zero_le _, fun e he => ?_⟩
          have s6 : Same H5 (upd H5 e (.tup [])) := same_upd he
          refine eqT (d := []) (((hx.mono s4).mono s5).mono s6) ⟨e, rfl, upd_same⟩ ⟨_, rfl, ?_⟩
          rw [decide_eq_false hcn]
          exact ⟨⟨_, rfl⟩, Same.trans s4 (Same.trans s5 s6)⟩
      · rintro σ H4 ⟨⟨v, rfl⟩, s4⟩
        refine ⟨_, rfl, st, us, rfl, .inr (SqT.of (s4 _ _ hs3)), fun l hl => ?_⟩
        have s5 : Same H4 (upd H4 l (.lst us)) := same_upd hl
        refine ⟨l, L, rfl, ⟨us, upd_same, (hu3.mono s4).mono s5⟩, hlL, fun c hc => ?_, fun H5 m s6 ⟨ms, hm, hms⟩ => ?_⟩
        · have := ((hL c hc).1).length_le
          omega
        · refine ⟨m, ms, rfl, .inl ⟨SqL.of hm, fun t ht => ?_⟩⟩
          have s7 : Same H5 (upd H5 t (.tup ms)) := same_upd ht
          have ha7 : upd H5 t (.tup ms) a = some (.ins Z.C dx (putF "names" (.ref n) [])) := s7 _ _ (s6 _ _ (s5 _ _ (s4 _ _ ha3)))
          have hn7 : upd H5 t (.tup ms) n = some (.tup (ys.map V.str)) := s7 _ _ (s6 _ _ (s5 _ _ (s4 _ _ hn3)))
          refine ⟨_, rfl, a, Z.C, dx, _, rfl, ha7, Z.cl, Z.nL, (by show 1 < 1000; decide), ?_⟩
          refine q _ n t (fun b ob hb e => ?_) upd_same (tup_ins ha7 hn7) ⟨ms, tup_ins ha7 upd_same, (hms.mono s7).insU ha7⟩
          rw [upd_ne hb]
          exact s7 _ _ (s6 _ _ (s5 _ _ (s4 _ _ (s3 b ob hb e))))
end
end L2.K25

namespace L2.K25
open PySem PySem.Spec PyProof.Rows
/-! the methods of Power -/
/-- what is told of an error's way out -/
def Rz (CU : Addr) (H : Hp) (E : XK) (M : List Str) : Prop := ∀ d H' y, Same H H' → H' d = some (.xd [("names", y)]) → TS H' y M → E (.ref CU) (some d) H'
def G (N : List Str) (P : List Str → Bool) : List (List Str) := KM.gre rle N P
def spEven (C : Addr) : Sp := fun vs H Q _ => ∃ v N L, vs = [v] ∧ PowAt C H v N L ∧ PL N L ∧ ∀ H', Same H H' → Q (.bl (decide (G N (KM.meets L) = L))) H'
def spForces (C : Addr) : Sp := fun vs H Q _ => ∃ v x N L c, vs = [v, x] ∧ PowAt C H v N L ∧ PL N L ∧ TS H x c ∧ c.Sublist N ∧ ∀ H', Same H H' → Q (.bl (KM.forced L c)) H'
def spCovers (C CU : Addr) : Sp := fun vs H Q E => ∃ u v N M L L', vs = [u, v] ∧ PowAt C H u N L ∧ PowAt C H v M L' ∧ PL N L ∧ PL M L' ∧ (N = M → ∀ H', Same H H' → Q (.bl (L'.all (KM.forced L))) H') ∧ (N ≠ M → Rz CU H E M)
def spEq (C : Addr) : Sp := fun vs H Q _ => ∃ u v N M L L', vs = [u, v] ∧ PowAt C H u N L ∧ PowAt C H v M L' ∧ Q (.bl (decide (N = M) && decide (L = L'))) H
def spInv (C : Addr) : Sp := fun vs H Q _ => ∃ u N L, vs = [u] ∧ PowAt C H u N L ∧ PL N L ∧ ∀ H' z, Same H H' → PowAt C H' z N (G N (KM.meets L)) → Q z H'
def spBin (C CU : Addr) (op : Bool → Bool → Bool) : Sp := fun vs H Q E => ∃ u v N M L L', vs = [u, v] ∧ PowAt C H u N L ∧ PowAt C H v M L' ∧ PL N L ∧ PL M L' ∧
  (N = M → ∀ H' z, Same H H' → PowAt C H' z N (G N fun c => op (KM.forced L c) (KM.forced L' c)) → Q z H') ∧ (N ≠ M → Rz CU H E M)
/-! mathematics -/
section
variable {N : List Str} {L L' : List (List Str)} {F : List (List Str)}
theorem up_meets (hF : ∀ c ∈ F, c.Sublist N) : KM.Up N (KM.meets F) := fun c d hc hd h q => by
  rw [KM.meets_dual hF] at q ⊢
  exact KM.up_dual (KM.up_forced N F) c d hc hd h q
theorem G_len (ok : NmOk N) (P : List Str → Bool) : (G N P).length ≤ 64 :=
  Nat.le_trans KM.gre_length (Nat.pow_le_pow_right (by decide) ok.hi)
theorem PL.gre (ok : NmOk N) {P : List Str → Bool} (hP : KM.Up N P) (h1 : P N = true) (h0 : P [] = false) : PL N (G N P) where
  ok := ok
  ne := fun e => by
    have := KM.forced_gre (rle := rle) hP (List.Sublist.refl N)
    rw [show KM.gre rle N P = [] from e, h1] at this
    cases this
  sb := fun c hc => by
    obtain ⟨a, b⟩ := KM.gre_sub hc
    refine ⟨a, fun e => ?_⟩
    rw [e, h0] at b
    cases b
  len := G_len ok P
theorem PL.nil (h : PL N L) : KM.forced L [] = false := by
  cases e : KM.forced L [] with
  | false => rfl
  | true =>
    obtain ⟨f, hf, hs⟩ := KM.forced_iff.mp e
    have := (h.sb f hf).2
    cases f with
    | nil => exact absurd rfl this
    | cons x r => exact absurd (KM.sub_iff.mp hs x List.mem_cons_self) (by simp)
theorem PL.all (h : PL N L) : KM.forced L N = true := by
  obtain ⟨c, hc⟩ := List.exists_mem_of_ne_nil L h.ne
  exact KM.forced_iff.mpr ⟨c, hc, KM.sub_iff.mpr fun x hx => (h.sb c hc).1.subset hx⟩
theorem PL.subs (h : PL N L) : ∀ c ∈ L, c.Sublist N := fun c hc => (h.sb c hc).1
theorem PL.meets (h : PL N L) : PL N (G N (KM.meets L)) := by
  refine PL.gre h.ok (up_meets h.subs) ?_ ?_
  · unfold KM.meets
    rw [List.all_eq_true]
    intro f hf
    obtain ⟨hs, hn⟩ := h.sb f hf
    cases f with
    | nil => exact absurd rfl hn
    | cons x r => simp [hs.subset (List.mem_cons_self)]
  · obtain ⟨c, hc⟩ := List.exists_mem_of_ne_nil L h.ne
    cases e : KM.meets L [] with
    | false => rfl
    | true =>
      unfold KM.meets at e
      rw [List.all_eq_true] at e
      have := e c hc
      simp at this
theorem PL.op (h : PL N L) (h' : PL N L') {op : Bool → Bool → Bool} (o1 : op true true = true) (o0 : op false false = false) (om : ∀ a b a' b', (a = true → a' = true) → (b = true → b' = true) → op a b = true → op a' b' = true) :
    PL N (G N fun c => op (KM.forced L c) (KM.forced L' c)) := by
  refine PL.gre h.ok (fun c d hc hd hs q => om _ _ _ _ (KM.forced_up hs) (KM.forced_up hs) q) ?_ ?_
  · show op _ _ = true
    rw [h.all, h'.all, o1]
  · show op _ _ = false
    rw [h.nil, h'.nil, o0]
theorem mini_dual (h : PL N L) : KM.mini rle ((KM.allS rle N).filter (KM.meets L)) = G N (KM.meets L) := KM.mini_filter rk_ok h.ok.nd (up_meets h.subs)
theorem mini_G (ok : NmOk N) {P : List Str → Bool} (hP : KM.Up N P) : KM.mini rle (G N P) = G N P := KM.mini_of_gre rk_ok ok.nd hP
theorem mini_or (h : PL N L) (h' : PL N L') : KM.mini rle (L ++ L') = G N fun c => KM.forced L c || KM.forced L' c := by
  rw [KM.mini_gre rk_ok h.ok.nd fun c hc => (List.mem_append.mp hc).elim (h.subs c) (h'.subs c)]
  exact KM.gre_congr fun c _ => KM.forced_append L L' c
theorem mini_and (h : PL N L) (h' : PL N L') : KM.mini rle (L.flatMap fun a => L'.map (KM.joinN N a)) = G N fun c => KM.forced L c && KM.forced L' c := by
  rw [KM.mini_gre rk_ok h.ok.nd fun c hc => ?_]
  · exact KM.gre_congr fun c _ => KM.forced_joins h.subs h'.subs c
  · obtain ⟨a, _, h2⟩ := List.mem_flatMap.mp hc
    obtain ⟨b, _, rfl⟩ := List.mem_map.mp h2
    exact KM.joinN_sub N a b
end
section
variable {P : Program} {w : World} {K : PySem.W.Frag} {mg : Str → Option Value} {base : Heap} {f : Addr} {fd : FuncData}
abbrev DEven (P w K mg base C) := DProp P w K mg base C 4 "even" (spEven C)
abbrev DForces (P w K mg base C) := DMeth P w K mg base C CX0 3 "forces" ["self", "wanted"] (spForces C)
abbrev DCovers (P w K mg base C CU) := DMeth P w K mg base C (L2.CX P w) 4 "covers" ["self", "other"] (spCovers C CU)
abbrev DEq (P w K mg base C) := DMeth P w K mg base C CX0 1 "__eq__" ["self", "other"] (spEq C)
abbrev DInv (P w K mg base C) := DMeth P w K mg base C CX0 5 "__invert__" ["self"] (spInv C)
abbrev DOr (P w K mg base C CU) := DMeth P w K mg base C (L2.CX P w) 5 "__or__" ["self", "other"] (spBin C CU or)
abbrev DAnd (P w K mg base C CU) := DMeth P w K mg base C (L2.CX P w) 5 "__and__" ["self", "other"] (spBin C CU and)
/-- what a making asks -/
theorem make_pow {C : Addr} {H : Hp} {o s : Addr} {N : List Str} {F : List (List Str)} {Q : VK} {E : XK} (h3 : Names3 H o s N F) (ok : NmOk N) (ne : F ≠ []) (hl : F.length ≤ 4096) (hF : ∀ c ∈ F, c.Sublist N ∧ c ≠ [])
    (q : ∀ H' z, Same H H' → PowAt C H' z N (KM.mini rle F) → Q z H') : ∀ x dx, H x = none → H dx = none → dx ≠ x → spInit C (.ref x :: ([.ref o, .ref s] ++ [])) (upd (upd H dx (.own x)) x (.ins C dx [])) (fun v H2 => v = .non ∧ Q (.ref x) H2) E := by
  intro x dx hx hd hne
  have s1 : Same H (upd (upd H dx (.own x)) x (.ins C dx [])) := Same.upd_after (same_upd hd) hx
  refine ⟨x, dx, o, s, N, F, rfl, upd_same, ?_, ok, ne, hl, hF, fun H' n t k hp hn ht => ⟨rfl, ?_⟩⟩
  · rcases h3 with ⟨a, b⟩ | ⟨a, b⟩ | ⟨a, b⟩
    · exact .inl ⟨s1 _ _ a, b.mono s1⟩
    · exact .inr (.inl ⟨s1 _ _ a, b.mono s1⟩)
    · exact .inr (.inr ⟨s1 _ _ a, b.mono s1⟩)
  · exact q H' _ (fun b ob e => k b ob (ne_of_none e hx) (s1 b ob e)) ⟨x, dx, n, t, rfl, hp, hn, ht⟩

theorem scEven : FnScope ["self"] ["self"] (defScope sPowerEven) := ⟨rfl, rfl, rfl, by decide +kernel, rfl, by decide +kernel, by decide +kernel⟩
theorem ok_even (F : Fun K "even" "Power.even" sPowerEven f fd) (T : Txt K mg) (Z : PwT K mg) (G_dual_sets : DDual P w K mg base) : FnOk P w K mg base CX0 4 f fd ["self"] (spEven Z.C) := by
  refine F.ok scEven (fun vs H Q E h => ?_) (fun cdv A outer s H vs Q E hr h => ?_)
  · obtain ⟨v, N, L, rfl, _⟩ := h
    rfl
  · obtain ⟨v, N, L, rfl, ⟨p, dx, n, t, rfl, hp, hn, ht⟩, hL, q⟩ := h
    refine ⟨_, (pss_one (ps_ret (pe_cmpR (op_eqPK K rfl hr.units) (pe_call G_dual_sets.ok (hr.mono (by decide)) rfl G_dual_sets.m G_dual_sets.kp G_dual_sets.b .nil pass0 (pa_cons (pe_fld (pv 0) rfl) (pa_cons (pe_fld (pv 0) rfl) pa_nil))) (pe_callTy (call_listK K rfl) (by rfl) T.b_list (by decide +kernel) (pa_cons (pe_fld (pv 0) rfl) pa_nil)) (nomark _)))), ?_⟩
    refine ⟨_, rfl, p, Z.C, dx, _, _, rfl, hp, Z.cl, Z.nN, pwf_names _ _, _, rfl, p, Z.C, dx, _, _, rfl, hp, Z.cl, Z.nL, pwf_least _ _, n, t, N, L, rfl, hn, ht, hL.ok.hi, by have := hL.len; omega, fun H1 r s1 hr1 => ?_⟩
    obtain ⟨us, hu, hus⟩ := ht.mono s1
    refine ⟨_, rfl, p, Z.C, dx, _, _, rfl, s1 _ _ hp, Z.cl, Z.nL, pwf_least _ _, t, us, rfl, .inr (SqT.of hu), fun l hl => ?_⟩
    have s2 : Same H1 (upd H1 l (.lst us)) := same_upd hl
    refine eqLs (hr1.mono s2) ⟨us, upd_same, hus.mono s2⟩ ?_
    rw [mini_dual hL]
    exact q _ (Same.trans s1 s2)

theorem scForces : FnScope ["self", "wanted", "least"] ["self", "wanted"] (defScope sPowerForces) := ⟨rfl, rfl, rfl, by decide +kernel, rfl, by decide +kernel, by decide +kernel⟩
theorem ok_forces (F : Fun K "forces" "Power.forces" sPowerForces f fd) (T : Txt K mg) (Z : PwT K mg) (G_is_set : DIsSet P w K mg base) (G_lies_in : DLies P w K mg base) : FnOk P w K mg base CX0 3 f fd ["self", "wanted"] (spForces Z.C) := by
  refine F.ok scForces (fun vs H Q E h => ?_) (fun cdv A outer s H vs Q E hr h => ?_)
  · obtain ⟨v, x, N, L, c, rfl, _⟩ := h
    rfl
  · obtain ⟨v, x, N, L, c, rfl, ⟨p, dx, n, t, rfl, hp, hn, us, ht, hus⟩, hL, hx, hc, q⟩ := h
    refine ⟨_, (pss_cons (ps_if (pt_not (pt_val (pe_call G_is_set.ok (hr.mono (by decide)) rfl G_is_set.m G_is_set.kp G_is_set.b .nil pass0 (pa_cons (pe_fld (pv 0) rfl) (pa_cons (pv 1) pa_nil))))) (pss_one ps_never) pss_nil) (pss_one (ps_ret (pe_callB (cr_any rfl) (by rfl) T.b_any (by decide +kernel) (pa_cons (pe_lc (own := [("least", 2)]) (g := gName 2) (tt := tYes) rfl scForces.nd (pi_tupK K rfl (pe_fld (pv 0) rfl)) (blkOk_by (own := [("least", 2)]) (N := ["self", "wanted", "least"]) (sc := defScope sPowerForces) (by decide +kernel)) (fun _ _ _ _ _ => pg_name (i := 2) scForces.nd rfl (Or.inl rfl)) (fun _ _ _ _ _ => pts_nil) (fun _ _ _ _ _ => (pe_call G_lies_in.ok (hr.mono (by decide)) rfl G_lies_in.m G_lies_in.kp G_lies_in.b .nil pass0 (pa_cons (pv 2) (pa_cons (pv 1) pa_nil))))) pa_nil))))), ?_⟩
    refine ⟨_, rfl, p, Z.C, dx, _, _, rfl, hp, Z.cl, Z.nN, pwf_names _ _, _, rfl, n, x, N, c, rfl, hn, hx, hL.ok.nd, hc, by have := hL.ok.hi; omega, fun H1 s1 => ⟨true, rfl, ?_⟩⟩
    refine ⟨_, rfl, p, Z.C, dx, _, _, rfl, s1 _ _ hp, Z.cl, Z.nL, pwf_least _ _, t, rfl, ⟨us, SqT.of (s1 _ _ ht)⟩, fun D hD => ?_⟩
    have hus1 := hus.mono s1
    refine lc_tup (K := K) (xs := us) (CI _ D fun i H acc => acc = ((L.take i).map fun o => KM.sub o c).map V.bl) (CI.start hD rfl) (fun i H _ z => SqT.of (z.1 _ _ (s1 _ _ ht))) ?_ ?_
    · rintro i y H2 hi ⟨z, acc, hD2, hal, rfl⟩
      obtain ⟨o, ho, hy⟩ := hus1.get hi
      refine ⟨rfl, _, rfl, _, rfl, y, x, o, c, rfl, hy.mono z, (hx.mono s1).mono z, hL.le (List.mem_of_getElem? ho), fun H3 s3 => ?_⟩
      refine CI.more hD (by have := (List.getElem?_eq_some_iff.mp ho).1; have := w64 hL.len; omega) (Same.trans z s3) (s3 _ _ hD2) hal ?_
      rw [take_snoc ho, List.map_append, List.map_append]
      rfl
    · rintro H2 ⟨z, acc, hD2, hal, rfl⟩
      rw [hus.len, List.take_length] at hD2
      refine ⟨D, _, rfl, SqL.of hD2, ?_⟩
      have e : (L.map fun o => KM.sub o c).any id = KM.forced L c := by
        unfold KM.forced
        rw [List.any_map]
        rfl
      rw [e]
      exact q _ (Same.trans s1 z)

theorem scEq : FnScope ["self", "other"] ["self", "other"] (defScope sPowerEq) := ⟨rfl, rfl, rfl, by decide +kernel, rfl, by decide +kernel, by decide +kernel⟩
theorem ok_eq (F : Fun K "__eq__" "Power.__eq__" sPowerEq f fd) (T : Txt K mg) (Z : PwT K mg) : FnOk P w K mg base CX0 1 f fd ["self", "other"] (spEq Z.C) := by
  refine F.ok scEq (fun vs H Q E h => ?_) (fun cdv A outer s H vs Q E hr h => ?_)
  · obtain ⟨u, v, N, M, L, L', rfl, _⟩ := h
    rfl
  · obtain ⟨u, v, N, M, L, L', rfl, ⟨p, dx, n, t, rfl, hp, hn, ht⟩, ⟨p', dx', n', t', rfl, hp', hn', ht'⟩, q⟩ := h
    refine ⟨_, (pss_one (ps_ret (pe_and (pe_callB (call_isiN K rfl) (by rfl) T.b_isinstance (by decide +kernel) (pa_cons (pv 1) (pa_cons (pe_glob (v := .ref Z.C) rfl Z.mgC rfl) pa_nil))) (pe_and (pe_cmpR (op_eqPK K rfl hr.units) (pe_fld (pv 0) rfl) (pe_fld (pv 1) rfl) (nomark _)) (pe_one (pe_cmpR (op_eqPK K rfl hr.units) (pe_fld (pv 0) rfl) (pe_fld (pv 1) rfl) (nomark _))))))), ?_⟩
    refine ⟨_, rfl, _, _, .ref Z.C, .ref Z.C, true, rfl, .own Z.C, .base (.ins hp' Z.cl Z.iA Z.iN Z.iT Z.ob), Z.ki, true, rfl, iteT ?_⟩
    refine ⟨_, rfl, p, Z.C, dx, _, _, rfl, hp, Z.cl, Z.nN, pwf_names _ _, _, rfl, p', Z.C, dx', _, _, rfl, hp', Z.cl, Z.nN, pwf_names _ _, eqT hn.ts hn'.ts ⟨_, rfl, ?_⟩⟩
    by_cases e : N = M
    · rw [decide_eq_true e] at q ⊢
      refine iteT ⟨_, rfl, p, Z.C, dx, _, _, rfl, hp, Z.cl, Z.nL, pwf_least _ _, _, rfl, p', Z.C, dx', _, _, rfl, hp', Z.cl, Z.nL, pwf_least _ _, eqTs ht ht' ?_⟩
      exact q
    · rw [decide_eq_false e] at q ⊢
      exact q

theorem scInvert : FnScope ["self"] ["self"] (defScope sPowerInvert) := ⟨rfl, rfl, rfl, by decide +kernel, rfl, by decide +kernel, by decide +kernel⟩
theorem ok_invert (F : Fun K "__invert__" "Power.__invert__" sPowerInvert f fd) (T : Txt K mg) (Z : PwT K mg) (G_dual_sets : DDual P w K mg base) (G_init : DInit P w K mg base Z.f (spInit Z.C)) : FnOk P w K mg base CX0 5 f fd ["self"] (spInv Z.C) := by
  refine F.ok scInvert (fun vs H Q E h => ?_) (fun cdv A outer s H vs Q E hr h => ?_)
  · obtain ⟨u, N, L, rfl, _⟩ := h
    rfl
  · obtain ⟨u, N, L, rfl, ⟨p, dx, n, t, rfl, hp, hn, ht⟩, hL, q⟩ := h
    refine ⟨_, (pss_one (ps_ret (pe_make Z.mk_ G_init.ok (hr.mono (by decide)) rfl Z.mgC G_init.b .nil pass0 (pa_cons (pe_fld (pv 0) rfl) (pa_cons (pe_call G_dual_sets.ok (hr.mono (by decide)) rfl G_dual_sets.m G_dual_sets.kp G_dual_sets.b .nil pass0 (pa_cons (pe_fld (pv 0) rfl) (pa_cons (pe_fld (pv 0) rfl) pa_nil))) pa_nil))))), ?_⟩
    refine ⟨_, rfl, p, Z.C, dx, _, _, rfl, hp, Z.cl, Z.nN, pwf_names _ _, _, rfl, p, Z.C, dx, _, _, rfl, hp, Z.cl, Z.nN, pwf_names _ _, _, rfl, p, Z.C, dx, _, _, rfl, hp, Z.cl, Z.nL, pwf_least _ _, n, t, N, L, rfl, hn, ht, hL.ok.hi, by have := hL.len; omega, fun H1 r s1 hr1 => ?_⟩
    rw [mini_dual hL] at hr1
    have hM := hL.meets
    refine make_pow (.inr (.inl ⟨s1 _ _ hn, hr1⟩)) hL.ok hM.ne (by have := hM.len; omega) hM.sb fun H2 z s2 hz => q H2 z (Same.trans s1 s2) ?_
    rw [mini_G hL.ok (up_meets hL.subs)] at hz
    exact hz

theorem scOr : FnScope ["self", "other"] ["self", "other"] (defScope sPowerOr) := ⟨rfl, rfl, rfl, by decide +kernel, rfl, by decide +kernel, by decide +kernel⟩
theorem ok_or (F : Fun K "__or__" "Power.__or__" sPowerOr f fd) (T : Txt K mg) (Z : PwT K mg) (Y : ExT K mg) (G_check_like : DLike P w K mg base Z.C Y.C) (G_sets : DSets P w K mg base Z.C) (G_init : DInit P w K mg base Z.f (spInit Z.C)) :
    FnOk P w K mg base (L2.CX P w) 5 f fd ["self", "other"] (spBin Z.C Y.C or) := by
  refine F.okX scOr (fun vs H Q E h => ?_) (fun cdv A outer s H vs Q E hr h => ?_)
  · obtain ⟨u, v, N, M, L, L', rfl, _⟩ := h
    rfl
  · obtain ⟨u, v, N, M, L, L', rfl, hu, hv, hL, hL', q1, q2⟩ := h
    refine ⟨_, (pss_cons (ps_expr (pe_callS (E := WE (fun cls d _ H => E cls d H)) G_check_like.ok (hr.mono (by decide)) rfl G_check_like.m G_check_like.kp G_check_like.b (fun σ => passAt (takes_of rfl rfl rfl rfl) σ) (pa_cons (pv 0) (pa_cons (pv 1) pa_nil)))) (pss_one (ps_ret (pe_make Z.mk_ G_init.ok (hr.mono (by decide)) rfl Z.mgC G_init.b .nil pass0 (pa_cons (pe_fld (pv 0) rfl) (pa_cons (pe_op (op_catAK K rfl) (pe_fld (pv 0) rfl) (pe_prop (pv 1) Z.cl G_sets.pr G_sets.ok (hr.mono (by decide)) G_sets.b .nil pass0 rfl)) pa_nil)))))), ?_⟩
    refine ⟨_, rfl, _, rfl, u, v, N, M, L, L', rfl, hu, hv, fun e => ?_, fun e => q2 e⟩
    subst e
    obtain ⟨p, dx, n, t, rfl, hp, hn, us, ht, hus⟩ := hu
    obtain ⟨p', dx', n', t', rfl, hp', hn', us', ht', hus'⟩ := hv
    have l1 := hus.len
    have l2 := hus'.len
    have z1 := hL.len
    have z2 := hL'.len
    refine ⟨_, rfl, p, Z.C, dx, _, _, rfl, hp, Z.cl, Z.nN, pwf_names _ _, _, rfl, p, Z.C, dx, _, _, rfl, hp, Z.cl, Z.nL, pwf_least _ _, _, rfl, p', dx', _, rfl, hp', p', dx', _, _, rfl, hp', pwf_least _ _,
      t, t', us, us', rfl, rfl, SqT.of ht, SqT.of ht', w4096 (by omega), fun e => ?_, fun _ e => ?_, fun _ _ r hr1 => ?_⟩
    · rw [e] at l1
      exact absurd (List.eq_nil_of_length_eq_zero l1.symm) hL.ne
    · rw [e] at l2
      exact absurd (List.eq_nil_of_length_eq_zero l2.symm) hL'.ne
    · have s1 : Same H (upd H r (.tup (us ++ us'))) := same_upd hr1
      refine make_pow (F := L ++ L') (.inr (.inr ⟨s1 _ _ hn, us ++ us', upd_same, TSs.app (hus.mono s1) (hus'.mono s1)⟩)) hL.ok (by simp [hL.ne]) (by rw [List.length_append]; omega) (fun c hc => (List.mem_append.mp hc).elim (hL.sb c) (hL'.sb c)) fun H2 z s2 hz => q1 rfl H2 z (Same.trans s1 s2) ?_
      rw [mini_or hL hL'] at hz
      exact hz
end
end L2.K25

namespace L2.K25
open PySem PySem.Spec PyProof.Rows
/-! covers, & -/
section
variable {P : Program} {w : World} {K : PySem.W.Frag} {mg : Str → Option Value} {base : Heap} {f : Addr} {fd : FuncData}
theorem scCovers : FnScope ["self", "other", "least"] ["self", "other"] (defScope sPowerCovers) := ⟨rfl, rfl, rfl, by decide +kernel, rfl, by decide +kernel, by decide +kernel⟩
theorem fo_ : ¬ (("forces" : Str) = "least") := by decide +kernel
theorem fo2_ : ¬ (("forces" : Str) = "names") := by decide +kernel
theorem ok_covers (F : Fun K "covers" "Power.covers" sPowerCovers f fd) (T : Txt K mg) (Z : PwT K mg) (Y : ExT K mg) (G_check_like : DLike P w K mg base Z.C Y.C) (G_sets : DSets P w K mg base Z.C) (G_forces : DForces P w K mg base Z.C) :
    FnOk P w K mg base (L2.CX P w) 4 f fd ["self", "other"] (spCovers Z.C Y.C) := by
  refine F.okX scCovers (fun vs H Q E h => ?_) (fun cdv A outer s H vs Q E hr h => ?_)
  · obtain ⟨u, v, N, M, L, L', rfl, _⟩ := h
    rfl
  · obtain ⟨u, v, N, M, L, L', rfl, hu, hv, hL, hL', q1, q2⟩ := h
    refine ⟨_, (pss_cons (ps_expr (pe_callS (E := WE (fun cls d _ H => E cls d H)) G_check_like.ok (hr.mono (by decide)) rfl G_check_like.m G_check_like.kp G_check_like.b (fun σ => passAt (takes_of rfl rfl rfl rfl) σ) (pa_cons (pv 0) (pa_cons (pv 1) pa_nil)))) (pss_one (ps_ret (pe_callB (cr_all rfl) (by rfl) T.b_all (by decide +kernel) (pa_cons (pe_lc (own := [("least", 2)]) (g := gName 2) (tt := tYes) rfl scCovers.nd (pi_tupK K rfl (pe_prop (pv 1) Z.cl G_sets.pr G_sets.ok (hr.mono (by decide)) G_sets.b .nil pass0 rfl)) (blkOk_by (own := [("least", 2)]) (N := ["self", "other", "least"]) (sc := defScope sPowerCovers) (by decide +kernel)) (fun _ _ _ _ _ => pg_name (i := 2) scCovers.nd rfl (Or.inl rfl)) (fun _ _ _ _ _ => pts_nil) (fun _ _ _ _ _ => (pe_meth (pv 0) Z.cl G_forces.mt G_forces.ok (hr.mono (by decide)) G_forces.b .nil pass0 (pa_cons (pv 2) pa_nil)))) pa_nil))))), ?_⟩
    refine ⟨_, rfl, _, rfl, u, v, N, M, L, L', rfl, hu, hv, fun e => ?_, fun e => q2 e⟩
    subst e
    have hu0 := hu
    obtain ⟨p, dx, n, t, rfl, hp, hn, ht⟩ := hu
    obtain ⟨p', dx', n', t', rfl, hp', hn', us', ht', hus'⟩ := hv
    refine ⟨_, rfl, p', dx', _, rfl, hp', p', dx', _, _, rfl, hp', pwf_least _ _, t', rfl, ⟨us', SqT.of ht'⟩, fun D hD => ?_⟩
    refine lc_tup (K := K) (xs := us') (CI _ D fun i H acc => acc = ((L'.take i).map fun o => KM.forced L o).map V.bl) (CI.start hD rfl) (fun i H _ z => SqT.of (z.1 _ _ ht')) ?_ ?_
    · rintro i y H2 hi ⟨z, acc, hD2, hal, rfl⟩
      obtain ⟨o, ho, hy⟩ := hus'.get hi
      refine ⟨rfl, _, rfl, p, dx, _, rfl, z _ _ hp, pwf_no _ _ fo_ fo2_, _, rfl, _, y, N, L, o, rfl, hu0.mono z, hL, hy.mono z, hL'.subs o (List.mem_of_getElem? ho), fun H3 s3 => ?_⟩
      refine CI.more hD (by have := (List.getElem?_eq_some_iff.mp ho).1; have := w64 hL'.len; omega) (Same.trans z s3) (s3 _ _ hD2) hal ?_
      rw [take_snoc ho, List.map_append, List.map_append]
      rfl
    · rintro H2 ⟨z, acc, hD2, hal, rfl⟩
      rw [hus'.len, List.take_length] at hD2
      refine ⟨D, _, rfl, SqL.of hD2, ?_⟩
      have e : (L'.map fun o => KM.forced L o).all id = L'.all (KM.forced L) := by
        rw [List.all_map]
        rfl
      rw [e]
      exact q1 rfl _ z

theorem scAnd : FnScope ["self", "other", "one", "two"] ["self", "other"] (defScope sPowerAnd) := ⟨rfl, rfl, rfl, by decide +kernel, rfl, by decide +kernel, by decide +kernel⟩
/-- the joins up to the i-th and the j-th -/
def joins (N : List Str) (L L' : List (List Str)) (i j : Nat) : List (List Str) := ((L.take i).flatMap fun a => L'.map (KM.joinN N a)) ++ (L'.take j).map (KM.joinN N (L.getD i []))
theorem joins_more {N : List Str} {L L' : List (List Str)} {i j : Nat} {a b : List Str} (ha : L[i]? = some a) (hb : L'[j]? = some b) : joins N L L' i (j + 1) = joins N L L' i j ++ [KM.joinN N a b] := by
  unfold joins
  rw [take_snoc hb, List.map_append, ← List.append_assoc]
  congr 2
  rw [List.getD_eq_getElem?_getD, ha]
  rfl
theorem joins_next {N : List Str} {L L' : List (List Str)} {i : Nat} {a : List Str} (ha : L[i]? = some a) : joins N L L' i L'.length = joins N L L' (i + 1) 0 := by
  unfold joins
  rw [take_snoc ha, List.flatMap_append, List.take_length, List.take_zero, List.map_nil, List.append_nil]
  congr 1
  rw [List.getD_eq_getElem?_getD, ha]
  simp
theorem joins_end {N : List Str} {L L' : List (List Str)} : joins N L L' L.length 0 = L.flatMap fun a => L'.map (KM.joinN N a) := by
  unfold joins
  rw [List.take_length, List.take_zero, List.map_nil, List.append_nil]
def CJ (H1 : Hp) (D : Addr) (N : List Str) (L L' : List (List Str)) (i j : Nat) (H : Hp) : Prop := Same H1 H ∧ ∃ acc, H D = some (.lst acc) ∧ acc.length ≤ i * 64 + j ∧ TSs H acc (joins N L L' i j)
theorem ok_and (F : Fun K "__and__" "Power.__and__" sPowerAnd f fd) (T : Txt K mg) (Z : PwT K mg) (Y : ExT K mg) (G_check_like : DLike P w K mg base Z.C Y.C) (G_sets : DSets P w K mg base Z.C) (G_init : DInit P w K mg base Z.f (spInit Z.C)) :
    FnOk P w K mg base (L2.CX P w) 5 f fd ["self", "other"] (spBin Z.C Y.C and) := by
  refine F.okX scAnd (fun vs H Q E h => ?_) (fun cdv A outer s H vs Q E hr h => ?_)
  · obtain ⟨u, v, N, M, L, L', rfl, _⟩ := h
    rfl
  · obtain ⟨u, v, N, M, L, L', rfl, hu, hv, hL, hL', q1, q2⟩ := h
    refine ⟨_, (pss_cons (ps_expr (pe_callS (E := WE (fun cls d _ H => E cls d H)) G_check_like.ok (hr.mono (by decide)) rfl G_check_like.m G_check_like.kp G_check_like.b (fun σ => passAt (takes_of rfl rfl rfl rfl) σ) (pa_cons (pv 0) (pa_cons (pv 1) pa_nil)))) (pss_one (ps_ret (pe_make Z.mk_ G_init.ok (hr.mono (by decide)) rfl Z.mgC G_init.b .nil pass0 (pa_cons (pe_fld (pv 0) rfl) (pa_cons (pe_lc2 (own := [("one", 2), ("two", 3)]) (g := gName 2) (tt := tYes) (g1 := gName 3) (tt1 := tYes) rfl scAnd.nd (pi_tupK K rfl (pe_fld (pv 0) rfl)) (blkOk_by (own := [("one", 2), ("two", 3)]) (N := ["self", "other", "one", "two"]) (sc := defScope sPowerAnd) (by decide +kernel)) (vs1 := [3]) (by decide) (fun _ _ _ _ _ => pg_name (i := 2) scAnd.nd rfl (Or.inl rfl)) (fun _ _ _ _ _ => pts_nil) (fun _ _ _ _ _ => (pi_tupK K rfl (pe_prop (pv 1) Z.cl G_sets.pr G_sets.ok (hr.mono (by decide)) G_sets.b .nil pass0 rfl))) (fun _ _ _ _ _ => pg_name (i := 3) scAnd.nd rfl (Or.inl rfl)) (fun _ _ _ _ _ => pts_nil) (fun _ _ _ _ _ => (pe_callTy (call_tupleK K rfl) (by rfl) T.b_tuple (by decide +kernel) (pa_cons (pe_callB (cr_sortedXK P w rfl rfl rfl) (by rfl) T.b_sorted (by decide +kernel) (pa_cons (pe_callTy (cr_setTK K P w rfl rfl rfl rfl) (by rfl) T.b_set (by decide +kernel) (pa_cons (pe_op (op_catAK K rfl) (pv 2) (pv 3)) pa_nil)) pa_nil)) pa_nil)))) pa_nil)))))), ?_⟩
    refine ⟨_, rfl, _, rfl, u, v, N, M, L, L', rfl, hu, hv, fun e => ?_, fun e => q2 e⟩
    subst e
    obtain ⟨p, dx, n, t, rfl, hp, hn, us, ht, hus⟩ := hu
    obtain ⟨p', dx', n', t', rfl, hp', hn', us', ht', hus'⟩ := hv
    have l1 := hus.len
    have l2 := hus'.len
    have z1 := hL.len
    have z2 := hL'.len
    refine ⟨_, rfl, p, Z.C, dx, _, _, rfl, hp, Z.cl, Z.nN, pwf_names _ _, _, rfl, p, Z.C, dx, _, _, rfl, hp, Z.cl, Z.nL, pwf_least _ _, t, rfl, ⟨us, SqT.of ht⟩, fun D hD => ?_⟩
    refine ⟨fun i m H2 => m = us.length - i ∧ i ≤ us.length ∧ CJ H D N L L' i 0 H2, ⟨_, rfl, Nat.zero_le _, same_upd hD, [], upd_same, Nat.zero_le _, .nil⟩, ?_⟩
    rintro i m H2 ⟨rfl, hi, hJ⟩
    have s2 : Same H H2 := hJ.1
    by_cases hlt : i < us.length
    · refine .inr ⟨⟨us, us[i], SqT.of (s2 _ _ ht), by simp [hlt]⟩, CJ H D N L L' (i + 1) 0, fun H' h => ⟨us.length - (i + 1), by omega, rfl, hlt, h⟩, ?_⟩
      rintro x H3 ⟨rfl, hy⟩
      have hx := hy us (SqT.of (s2 _ _ ht))
      obtain ⟨a, ha, hxa⟩ := hus.get hx
      refine ⟨rfl, _, rfl, p', dx', _, rfl, s2 _ _ hp', p', dx', _, _, rfl, s2 _ _ hp', pwf_least _ _, t', rfl, ⟨us', SqT.of (s2 _ _ ht')⟩, ?_⟩
      refine ⟨fun j k H4 => k = us'.length - j ∧ j ≤ us'.length ∧ CJ H D N L L' i j H4, ⟨_, rfl, Nat.zero_le _, hJ⟩, ?_⟩
      rintro j k H4 ⟨rfl, hj, hK⟩
      have s4 : Same H H4 := hK.1
      by_cases hjt : j < us'.length
      · refine .inr ⟨⟨us', us'[j], SqT.of (s4 _ _ ht'), by simp [hjt]⟩, CJ H D N L L' i (j + 1), fun H' h => ⟨us'.length - (j + 1), by omega, rfl, hjt, h⟩, ?_⟩
        rintro y H5 ⟨e5, hy'⟩
        obtain rfl : H4 = H5 := e5.symm
        have hy2 := hy' us' (SqT.of (s4 _ _ ht'))
        obtain ⟨b, hb, hyb⟩ := hus'.get hy2
        obtain ⟨as, an⟩ := hL.sb a (List.mem_of_getElem? ha)
        obtain ⟨bs, bn⟩ := hL'.sb b (List.mem_of_getElem? hb)
        obtain ⟨xa, rfl, hxa4⟩ := hxa.mono s4
        obtain ⟨yb, rfl, hyb4⟩ := hyb.mono s4
        obtain ⟨_, acc, hD4, hal, hacc⟩ := hK
        have ha6 := as.length_le
        have hb6 := bs.length_le
        have h6 := hL.ok.hi
        refine ⟨rfl, _, rfl, _, rfl, xa, yb, _, _, rfl, rfl, SqT.of hxa4, SqT.of hyb4, ?_, fun e => ?_, fun _ e => ?_, fun _ _ r hr1 => ?_⟩
        · rw [List.length_map, List.length_map]
          exact w4096 (by omega)
        · exact absurd (List.map_eq_nil_iff.mp e) an
        · exact absurd (List.map_eq_nil_iff.mp e) bn
        · rw [← List.map_append]
          have s5 : Same H4 (upd H4 r (.tup ((a ++ b).map V.str))) := same_upd hr1
          have h5 : upd H4 r (.tup ((a ++ b).map V.str)) r = some (.tup ((a ++ b).map V.str)) := upd_same
          generalize upd H4 r (.tup ((a ++ b).map V.str)) = H5 at s5 h5 ⊢
          refine ⟨r, a ++ b, rfl, SqT.of h5, by rw [List.length_append]; omega, fun q l hl hm hq => ⟨q, l, rfl, upd_same, ?_, fun ys r2 hpm hnd hso hr2 => ⟨r2, _, rfl, .inl ⟨SqL.of upd_same, fun t2 ht2 => ?_⟩⟩⟩⟩
          · rw [List.length_append] at hl
            omega
          · have s6 : Same H4 (upd (upd (upd H5 q (SXO P w q l)) r2 (.lst (ys.map V.str))) t2 (.tup (ys.map V.str))) := Same.trans s5 (Same.trans (same_upd hq) (Same.trans (same_upd hr2) (same_upd ht2)))
            have e6 : upd (upd (upd H5 q (SXO P w q l)) r2 (.lst (ys.map V.str))) t2 (.tup (ys.map V.str)) t2 = some (.tup (ys.map V.str)) := upd_same
            generalize upd (upd (upd H5 q (SXO P w q l)) r2 (.lst (ys.map V.str))) t2 (.tup (ys.map V.str)) = H6 at s6 e6 ⊢
            have ej : ys = KM.joinN N a b := join_sorted hL.ok as bs hm hpm hnd hso
            have hD6 := s6 _ _ hD4
            have hiu : i < 64 := by omega
            have hju : j < 64 := by omega
            refine ⟨acc, hD6, Nat.lt_of_le_of_lt hal (by rw [sizeLine_eq]; omega), Same.upd_after (Same.trans s4 s6) hD, _, upd_same, by rw [List.length_append, List.length_singleton]; omega, ?_⟩
            rw [joins_more ha hb]
            exact TSs.snoc ((hacc.mono s6).updL hD6) (TS.updL hD6 ⟨t2, rfl, by rw [← ej]; exact e6⟩)
      · have ej : j = L'.length := by omega
        subst ej
        refine .inl ⟨⟨us', SqT.of (s4 _ _ ht'), by omega⟩, ?_⟩
        obtain ⟨_, acc, hD4, hal, hacc⟩ := hK
        rw [joins_next ha] at hacc
        exact ⟨s4, acc, hD4, by omega, hacc⟩
    · have ei : i = L.length := by omega
      subst ei
      obtain ⟨_, acc, hD2, hal, hacc⟩ := hJ
      rw [joins_end] at hacc
      refine .inl ⟨⟨us, SqT.of (s2 _ _ ht), by omega⟩, ?_⟩
      have hjl : (L.flatMap fun a => L'.map (KM.joinN N a)).length ≤ 4096 := by
        rw [← hacc.len]
        omega
      have hjs : ∀ c ∈ L.flatMap fun a => L'.map (KM.joinN N a), c.Sublist N ∧ c ≠ [] := by
        intro c hc
        obtain ⟨a, ha, h2⟩ := List.mem_flatMap.mp hc
        obtain ⟨b, hb, rfl⟩ := List.mem_map.mp h2
        refine ⟨KM.joinN_sub N a b, fun e => ?_⟩
        obtain ⟨as, an⟩ := hL.sb a ha
        cases a with
        | nil => exact an rfl
        | cons x r =>
          have : x ∈ KM.joinN N (x :: r) b := List.mem_filter.mpr ⟨as.subset List.mem_cons_self, by simp⟩
          rw [e] at this
          cases this
      have hjn : (L.flatMap fun a => L'.map (KM.joinN N a)) ≠ [] := by
        intro e
        obtain ⟨a, ha⟩ := List.exists_mem_of_ne_nil L hL.ne
        obtain ⟨b, hb⟩ := List.exists_mem_of_ne_nil L' hL'.ne
        have : KM.joinN N a b ∈ L.flatMap fun a => L'.map (KM.joinN N a) := List.mem_flatMap.mpr ⟨a, ha, List.mem_map.mpr ⟨b, hb, rfl⟩⟩
        rw [e] at this
        cases this
      refine make_pow (.inr (.inl ⟨s2 _ _ hn, acc, hD2, hacc⟩)) hL.ok hjn hjl hjs fun H3 z s3 hz => q1 rfl H3 z (Same.trans s2 s3) ?_
      rw [mini_and hL hL'] at hz
      exact hz
end
end L2.K25

namespace L2.K25
open PySem PySem.Spec PyProof.Rows
/-! the law's draws -/
/-- at st stands the law's state, drawn from at most m times; H0 is the heap without it -/
def StAt (H0 H : Hp) (st : Addr) (m : Nat) : Prop := Same H0 H ∧ ∃ (b cl : Addr) (bigs cells : List Int) (n : Int), H st = some (.lst [.ref b, .ref cl, .int n]) ∧ H b = some (.lst (bigs.map V.int)) ∧ H cl = some (.lst (cells.map V.int)) ∧
  b ≠ cl ∧ H0 st = none ∧ H0 b = none ∧ H0 cl = none ∧ 0 ≤ n ∧ n ≤ (m : Int) ∧ cells ≠ []
theorem ne_ints {st b cl : Addr} {n : Int} {H : Hp} {xs : List Int} (h : H st = some (.lst [.ref b, .ref cl, .int n])) {a : Addr} (h' : H a = some (.lst (xs.map V.int))) : st ≠ a :=
  ne_of h h' fun z => by
    have e : [V.ref b, V.ref cl, V.int n] = xs.map V.int := HO.lst.inj z
    cases xs with
    | nil => cases e
    | cons x r => cases (List.cons.inj e).1
theorem StAt.ext {H0 H H' : Hp} {st : Addr} {m : Nat} (h : StAt H0 H st m) (s : Same H H') : StAt H0 H' st m := by
  obtain ⟨s0, b, cl, bigs, cells, n, h1, h2, h3, r⟩ := h
  exact ⟨Same.trans s0 s, b, cl, bigs, cells, n, s _ _ h1, s _ _ h2, s _ _ h3, r⟩
theorem StAt.more {H0 H : Hp} {st : Addr} {m k : Nat} (h : StAt H0 H st m) (hk : m ≤ k) : StAt H0 H st k := by
  obtain ⟨s0, b, cl, bigs, cells, n, h1, h2, h3, h4, h5, h6, h7, h8, h9, h10⟩ := h
  exact ⟨s0, b, cl, bigs, cells, n, h1, h2, h3, h4, h5, h6, h7, h8, by omega, h10⟩
/-- a new object that is kept -/
theorem StAt.add {H0 H : Hp} {st p : Addr} {m : Nat} {o : HO} (h : StAt H0 H st m) (hp : H p = none) : StAt (upd H0 p o) (upd H p o) st m ∧ Same H0 (upd H0 p o) := by
  obtain ⟨s0, b, cl, bigs, cells, n, h1, h2, h3, h4, h5, h6, h7, h8, h9, h10⟩ := h
  have hp0 : H0 p = none := s0.free hp
  have n1 := ne_of_none h1 hp
  have n2 := ne_of_none h2 hp
  have n3 := ne_of_none h3 hp
  refine ⟨⟨fun a u e => ?_, b, cl, bigs, cells, n, by rw [upd_ne n1]; exact h1, by rw [upd_ne n2]; exact h2, by rw [upd_ne n3]; exact h3, h4, by rw [upd_ne n1]; exact h5, by rw [upd_ne n2]; exact h6, by rw [upd_ne n3]; exact h7, h8, h9, h10⟩, same_upd hp0⟩
  by_cases e' : a = p
  · subst e'
    rw [upd_same] at e ⊢
    exact e
  · rw [upd_ne e'] at e ⊢
    exact s0 a u e
/-- behind a call that keeps all: what is new is kept, too -/
theorem StAt.lift {H0 H H' : Hp} {st : Addr} {m : Nat} (h : StAt H0 H st m) (s : Same H H') : ∃ H0', StAt H0' H' st m ∧ Same H0 H0' ∧ (∀ a xs, H' a = some (.tup xs) → H0' a = some (.tup xs)) ∧
    (∀ a C dx fs, H' a = some (.ins C dx fs) → H0' a = some (.ins C dx fs)) ∧ (∀ a o, H a = none → H' a = some o → H0' a = some o) := by
  obtain ⟨s0, b, cl, bigs, cells, n, h1, h2, h3, h4, h5, h6, h7, h8, h9, h10⟩ := h
  have g1 := s _ _ h1
  have g2 := s _ _ h2
  have g3 := s _ _ h3
  have key : ∀ a o, H' a = some o → a ≠ st → a ≠ b → a ≠ cl → (fun a => if a = st ∨ a = b ∨ a = cl then none else H' a) a = some o := fun a o e n1 n2 n3 => by
    show (if a = st ∨ a = b ∨ a = cl then none else H' a) = some o
    rw [if_neg (by rintro (z | z | z) <;> contradiction)]
    exact e
  refine ⟨fun a => if a = st ∨ a = b ∨ a = cl then none else H' a, ⟨fun a o e => ?_, b, cl, bigs, cells, n, g1, g2, g3, h4, if_pos (.inl rfl), if_pos (.inr (.inl rfl)), if_pos (.inr (.inr rfl)), h8, h9, h10⟩, fun a o e => ?_, fun a xs e => ?_, fun a C dx fs e => ?_, fun a o hn e => ?_⟩
  · have e' : (if a = st ∨ a = b ∨ a = cl then none else H' a) = some o := e
    split at e'
    · cases e'
    · exact e'
  · exact key a o (s _ _ (s0 _ _ e)) (ne_of_none e h5) (ne_of_none e h6) (ne_of_none e h7)
  · exact key a _ e (ne_of e g1 (by intro z; cases z)) (ne_of e g2 (by intro z; cases z)) (ne_of e g3 (by intro z; cases z))
  · exact key a _ e (ne_of e g1 (by intro z; cases z)) (ne_of e g2 (by intro z; cases z)) (ne_of e g3 (by intro z; cases z))
  · exact key a o e (fun z => by rw [z, h1] at hn; cases hn) (fun z => by rw [z, h2] at hn; cases hn) (fun z => by rw [z, h3] at hn; cases hn)

def spDraw : Sp := fun vs H Q _ => ∃ (st : Addr) (size : Int) (m : Nat) (H0 : Hp), vs = [.ref st, .int size] ∧ 1 ≤ size ∧ size ≤ 1000 ∧ m ≤ 1000000 ∧ StAt H0 H st m ∧
  ∀ H' (d : Int), 0 ≤ d → d < size → StAt H0 H' st (m + 1) → Q (.int d) H'
def spStart (K : PySem.W.Frag) : Sp := fun vs H Q _ => ∃ (a : Addr) (ns : List Int), vs = [.ref a] ∧ SqL K H a (ns.map V.int) ∧ ns.length ≤ 63 ∧ ∀ H' st, StAt H H' st 0 → Q (.ref st) H'
/-- a list of ints and the empty list -/
theorem dp_ints {K : PySem.W.Frag} {H : Hp} : ∀ xs : List Int, DpAll K H (xs.map V.int) (xs.map PyData.int)
  | [] => .nil
  | x :: xs => .cons (.int x) (dp_ints xs)
theorem plain_ints : ∀ xs : List Int, PyData.plainAll (xs.map PyData.int) = true
  | [] => by simp [PyData.plainAll]
  | x :: xs => by simp [PyData.plainAll, PyData.plain, plain_ints xs]
theorem dep_ints : ∀ xs : List Int, PyData.depthAll (xs.map PyData.int) = 0
  | [] => by simp [PyData.depthAll]
  | x :: xs => by simp [PyData.depthAll, PyData.depth, dep_ints xs]
theorem neI {K : PySem.W.Frag} {H : Hp} {a b : Addr} {xs : List Int} {Q : VK} (h1 : H a = some (.lst (xs.map V.int))) (h2 : H b = some (.lst [])) (q : Q (.bl (!decide (xs = []))) H) : rNeP K (.ref a) (.ref b) H Q := by
  refine ⟨.list (xs.map .int), .list [], .lst (SqL.of h1) (dp_ints xs), .lst (SqL.of h2) .nil, ?_, ?_, ?_⟩
  · simp [shp, PyData.plain, plain_ints xs, PyData.depth, dep_ints xs]
  · simp [shp, PyData.plain, PyData.plainAll, PyData.depth, PyData.depthAll]
  · have e : PyData.eqv (.list (xs.map .int)) (.list []) = decide (xs = []) := by
      rw [PyData.eqv]
      cases xs with
      | nil => simp [PyData.eqvAll]
      | cons x r => simp [PyData.eqvAll]
    rw [e]
    exact q
theorem at_ints {xs : List Int} {k : Int} (h0 : 0 ≤ k) (h1 : k < (xs.length : Int)) : ∃ c, atI (xs.map V.int) k = some (.int c) := by
  obtain ⟨j, rfl⟩ : ∃ j : Nat, k = (j : Int) := ⟨k.toNat, by omega⟩
  have hj : j < xs.length := by omega
  refine ⟨xs[j], atI_nat ?_⟩
  rw [List.getElem?_map, List.getElem?_eq_getElem hj]
  rfl
theorem ix0 {n : Nat} (h : 0 < n) : ixN n 0 = some 0 := by
  unfold ixN
  rw [if_pos (Int.le_refl _), if_pos (by omega)]
  rfl
theorem at0 {α : Type} {x : α} {r : List α} : atI (x :: r) 0 = some x := atI_nat (j := 0) rfl
theorem at1 {α : Type} {x y : α} {r : List α} : atI (x :: y :: r) 1 = some y := atI_nat (j := 1) rfl
theorem at2 {α : Type} {x y z : α} {r : List α} : atI (x :: y :: z :: r) 2 = some z := atI_nat (j := 2) rfl
section
variable {P : Program} {w : World} {K : PySem.W.Frag} {mg : Str → Option Value} {base : Heap} {f : Addr} {fd : FuncData}
abbrev DDraw (P w K mg base) := Df P w K mg base CX0 1 "_law_draw" sLawDraw ["_law_state", "_law_size"] spDraw
abbrev DStart (P w K mg base) := Df P w K mg base CX0 1 "_law_start" sLawStart ["_law_script"] (spStart K)
theorem scStart : FnScope ["_law_script", "_law_cell"] ["_law_script"] (defScope sLawStart) := ⟨rfl, rfl, rfl, by decide +kernel, rfl, by decide +kernel, by decide +kernel⟩
theorem ok_start (F : Fun K "_law_start" "_law_start" sLawStart f fd) (T : Txt K mg) : FnOk P w K mg base CX0 1 f fd ["_law_script"] (spStart K) := by
  refine F.ok scStart (fun vs H Q E h => ?_) (fun cdv A outer s H vs Q E hr h => ?_)
  · obtain ⟨a, ns, rfl, _⟩ := h
    rfl
  · obtain ⟨a, ns, rfl, hS, hl, q⟩ := h
    refine ⟨_, (pss_one (ps_ret (pe_lst (pa_cons (pe_lc (own := [("_law_cell", 1)]) (g := gName 1) rfl scStart.nd (pi_listK K rfl (pv 0)) (blkOk_by (own := [("_law_cell", 1)]) (N := ["_law_script", "_law_cell"]) (sc := defScope sLawStart) (by decide +kernel)) (fun _ _ _ _ _ => pg_name (i := 1) scStart.nd rfl (Or.inl rfl)) (fun _ _ _ _ _ => pts_one (pt_cmpR op_ge (pe_callB call_abs (by rfl) T.b_abs (by decide +kernel) (pa_cons (pv 1) pa_nil)) (pe_op op_pow pe_int pe_int) (nomark _))) (fun _ _ _ _ _ => (pe_callB call_abs (by rfl) T.b_abs (by decide +kernel) (pa_cons (pv 1) pa_nil)))) (pa_cons (pe_op op_cat (pe_callTy (call_listK K rfl) (by rfl) T.b_list (by decide +kernel) (pa_cons (pv 0) pa_nil)) (pe_lst (pa_cons pe_int pa_nil))) (pa_cons pe_int pa_nil)))))), ?_⟩
    refine ⟨_, rfl, a, rfl, ⟨_, hS⟩, fun D hD => ?_⟩
    refine lc_list (K := K) (xs := ns.map V.int) (CI _ D fun i H acc => ∃ bs : List Int, acc = bs.map V.int) (CI.start hD ⟨[], rfl⟩) (fun i H _ z => z.1.seq hS) ?_ ?_
    · rintro i x H1 hi ⟨z, acc, hd, hal, bs, rfl⟩
      obtain ⟨y, hy, rfl⟩ := map_at hi
      have hil : i < sizeLine := by
        have := (List.getElem?_eq_some_iff.mp hy).1
        have := w64 (n := ns.length) (by omega)
        omega
      refine ⟨rfl, _, rfl, _, rfl, _, _, rfl, rfl, ⟨by decide, by decide, by decide⟩, _, _, rfl, rfl, _, rfl, ?_⟩
      refine ite2 (fun _ => ?_) (fun _ => CI.skip z hd hal ⟨bs, rfl⟩)
      exact ⟨_, rfl, _, rfl, CI.more hD hil z hd hal ⟨bs ++ [if y < 0 then -y else y], by rw [List.map_append]; rfl⟩⟩
    · rintro H1 ⟨z, acc, hd, hal, bs, rfl⟩
      refine ⟨_, rfl, a, _, rfl, .inl (z.seq hS), fun l hl1 => ⟨by decide, fun l5 hl5 => ?_⟩⟩
      have s2 : Same H1 (upd H1 l (.lst (ns.map V.int))) := same_upd hl1
      have s3 := same_upd (o := .lst [V.int 5]) hl5
      refine ⟨l, l5, _, _, rfl, rfl, s3 _ _ upd_same, upd_same, ?_, fun cl hcl => ⟨(by show 3 ≤ sizeLine; decide), fun st hst => ?_⟩⟩
      · rw [List.length_map]
        exact w4096 (by show ns.length + 1 ≤ 4096; omega)
      · have s4 := same_upd (o := .lst (ns.map V.int ++ [V.int 5])) hcl
        have s5 := same_upd (o := .lst [.ref D, .ref cl, .int 0]) hst
        have h4 := Same.trans z (Same.trans s2 s3)
        have h5 := Same.trans h4 s4
        have hall := Same.trans h5 s5
        have hD4 := s4 _ _ (s3 _ _ (s2 _ _ hd))
        refine q _ st ⟨hall, D, cl, bs, ns ++ [5], 0, upd_same, s5 _ _ hD4, ?_, ne_of_none (s3 _ _ (s2 _ _ hd)) hcl, h5.free hst, hD, h4.free hcl, Int.le_refl _, Int.le_refl _, by simp⟩
        rw [List.map_append]
        exact s5 _ _ upd_same

theorem scDraw : FnScope ["_law_state", "_law_size", "_law_digit", "_law_cell", "_law_one"] ["_law_state", "_law_size"] (defScope sLawDraw) := ⟨rfl, rfl, rfl, by decide +kernel, rfl, by decide +kernel, by decide +kernel⟩
theorem mod_lt {a b : Int} (h : 0 < b) : 0 ≤ a % b ∧ a % b < b := ⟨Int.emod_nonneg _ (by omega), Int.emod_lt_of_pos _ h⟩
theorem ok_draw (F : Fun K "_law_draw" "_law_draw" sLawDraw f fd) (T : Txt K mg) : FnOk P w K mg base CX0 1 f fd ["_law_state", "_law_size"] spDraw := by
  refine F.ok scDraw (fun vs H Q E h => ?_) (fun cdv A outer s H vs Q E hr h => ?_)
  · obtain ⟨st, size, m, H0, rfl, _⟩ := h
    rfl
  · obtain ⟨st, size, m, H0, rfl, hz1, hz2, hm, ⟨s0, b, cl, bigs, cells, n, h1, h2, h3, h4, h5, h6, h7, h8, h9, h10⟩, q⟩ := h
    have hcl : st ≠ cl := ne_ints h1 h3
    refine ⟨_, (pss_cons (ps_augS (pv 0) pe_int pget_list pe_int ip_add set_list) (pss_cons (ps_while PassesOwn.never (PW.pt (pw_and (pt_cmpR (op_nePK K rfl hr.units) (pe_ix (ix_listK K rfl) (pv 0) pe_int (fun _ _ => rfl)) (pe_lst pa_nil) (nomark _)) (pw_and1 (pt_cmpR op_eq (pe_ix (ix_listK K rfl) (pe_ix (ix_listK K rfl) (pv 0) pe_int (fun _ _ => rfl)) pe_int (fun _ _ => rfl)) pe_int (nomark _))))) (pss_one (ps_asg (pe_slice sl_list (pe_ix (ix_listK K rfl) (pv 0) pe_int (fun _ _ => rfl)) (po_some pe_int) po_none) (pg_sub (pv 0) pe_int set_list)))) (pss_cons (ps_if (pt_cmpR (op_nePK K rfl hr.units) (pe_ix (ix_listK K rfl) (pv 0) pe_int (fun _ _ => rfl)) (pe_lst pa_nil) (nomark _)) (pss_cons (ps_set (i := 2) scDraw.nd rfl (Or.inl rfl) (pe_op op_mod (pe_callTy call_int1 (by rfl) T.b_int (by decide +kernel) (pa_cons (pe_ix (ix_listK K rfl) (pe_ix (ix_listK K rfl) (pv 0) pe_int (fun _ _ => rfl)) pe_int (fun _ _ => rfl)) pa_nil)) (pv 1))) (pss_cons (ps_asg (pe_op op_fdivN (pe_ix (ix_listK K rfl) (pe_ix (ix_listK K rfl) (pv 0) pe_int (fun _ _ => rfl)) pe_int (fun _ _ => rfl)) (pv 1)) (pg_sub (pe_ix (ix_listK K rfl) (pv 0) pe_int (fun _ _ => rfl)) pe_int set_list)) (pss_one (ps_ret (pv 2))))) pss_nil) (pss_cons (ps_set (i := 3) scDraw.nd rfl (Or.inl rfl) (pe_op op_mod (pe_callTy call_int1 (by rfl) T.b_int (by decide +kernel) (pa_cons (pe_ix (ix_listK K rfl) (pe_ix (ix_listK K rfl) (pv 0) pe_int (fun _ _ => rfl)) (pe_op op_mod (pe_callTy call_int1 (by rfl) T.b_int (by decide +kernel) (pa_cons (pe_ix (ix_listK K rfl) (pv 0) pe_int (fun _ _ => rfl)) pa_nil)) (pe_callB (call_lenK K rfl) (by rfl) T.b_len (by decide +kernel) (pa_cons (pe_ix (ix_listK K rfl) (pv 0) pe_int (fun _ _ => rfl)) pa_nil))) (fun _ _ => rfl)) pa_nil)) pe_int)) (pss_cons (ps_set (i := 4) scDraw.nd rfl (Or.inl rfl) (pe_op op_mod (pe_callTy call_int1 (by rfl) T.b_int (by decide +kernel) (pa_cons (pe_op op_pow (pe_op op_add (pe_op op_add (pe_op op_mul (pv 3) pe_int) (pe_op op_mul (pe_ix (ix_listK K rfl) (pv 0) pe_int (fun _ _ => rfl)) pe_int)) pe_int) pe_int) pa_nil)) pe_int)) (pss_one (ps_ret (pe_op op_mod (pe_op op_mod (pe_callTy call_int1 (by rfl) T.b_int (by decide +kernel) (pa_cons (pe_op op_pow (pe_op op_add (pe_op op_add (pe_op op_mul (pv 4) pe_int) (pe_op op_mul (pe_ix (ix_listK K rfl) (pv 0) pe_int (fun _ _ => rfl)) pe_int)) pe_int) pe_int) pa_nil)) pe_int) (pv 1))))))))), ?_⟩
    refine ⟨_, rfl, st, _, 2, .int n, rfl, rfl, SqL.of h1, at2, n, 1, rfl, rfl, st, _, 2, 2, rfl, rfl, h1, by rfl, ?_⟩
    have g1 : upd H st (.lst ([V.ref b, V.ref cl, V.int n].set 2 (.int (n + 1)))) st = some (.lst [.ref b, .ref cl, .int (n + 1)]) := upd_same
    have g2 : upd H st (.lst ([V.ref b, V.ref cl, V.int n].set 2 (.int (n + 1)))) b = some (.lst (bigs.map V.int)) := by rw [upd_ne (Ne.symm (ne_ints h1 h2))]; exact h2
    have g3 : upd H st (.lst ([V.ref b, V.ref cl, V.int n].set 2 (.int (n + 1)))) cl = some (.lst (cells.map V.int)) := by rw [upd_ne hcl.symm]; exact h3
    have s1 : Same H0 (upd H st (.lst ([V.ref b, V.ref cl, V.int n].set 2 (.int (n + 1))))) := Same.upd_after s0 h5
    generalize upd H st (.lst ([V.ref b, V.ref cl, V.int n].set 2 (.int (n + 1)))) = H1 at g1 g2 g3 s1 ⊢
    -- while
    refine ⟨fun k σ H' => σ = [some (.ref st), some (.int size), none, none, none] ∧ ∃ b bigs, k = bigs.length ∧ Same H0 H' ∧ H' st = some (.lst [.ref b, .ref cl, .int (n + 1)]) ∧ H' b = some (.lst (bigs.map V.int)) ∧ H' cl = some (.lst (cells.map V.int)) ∧ b ≠ cl ∧ H0 b = none,
      ⟨_, rfl, b, bigs, rfl, s1, g1, g2, g3, h4, h6⟩, ?_⟩
    clear g1 g2 g3 s1 h1 h2 h3 h4 h6 s0
    rintro k σ H2 ⟨rfl, b, bigs, rfl, s2, h1, h2, h3, h4, h6⟩
    refine ⟨_, rfl, st, _, 0, _, rfl, rfl, SqL.of h1, at0, Nat.zero_le _, fun e he => neI (xs := bigs) ((same_upd he) _ _ h2) upd_same ⟨_, rfl, ?_⟩⟩
    have se : Same H2 (upd H2 e (.lst [])) := same_upd he
    have h1 := se _ _ h1
    have h2 := se _ _ h2
    have h3 := se _ _ h3
    have s3 := Same.trans s2 se
    generalize upd H2 e (.lst []) = H3 at h1 h2 h3 s3 ⊢
    cases bigs with
    | nil =>
      refine ⟨_, rfl, st, _, 0, _, rfl, rfl, SqL.of h1, at0, Nat.zero_le _, fun e he => neI (xs := []) ((same_upd he) _ _ h2) upd_same ⟨_, rfl, ?_⟩⟩
      have se : Same H3 (upd H3 e (.lst [])) := same_upd he
      have h1 := se _ _ h1
      have h2 := se _ _ h2
      have h3 := se _ _ h3
      have s3 := Same.trans s3 se
      generalize upd H3 e (.lst []) = H4 at h1 h2 h3 s3 ⊢
      have hlen : 0 < (cells.map V.int).length := by
        rw [List.length_map]
        exact List.length_pos_iff.mpr h10
      have hlen' : (0 : Int) < (((cells.map V.int).length : Nat) : Int) := by omega
      have hlc : ((cells.map V.int).length : Int) = (cells.length : Int) := by rw [List.length_map]
      have hk := mod_lt (a := n + 1) hlen'
      obtain ⟨c, hc⟩ := at_ints (xs := cells) (k := (n + 1) % (((cells.map V.int).length : Nat) : Int)) hk.1 (by rw [← hlc]; exact hk.2)
      refine ⟨_, rfl, st, _, 1, _, rfl, rfl, SqL.of h1, at1, _, rfl, st, _, 2, _, rfl, rfl, SqL.of h1, at2, .inl ⟨_, rfl, _, rfl, st, _, 1, _, rfl, rfl, SqL.of h1, at1, cl, _, rfl, .inl (SqL.of h3), _, _, rfl, rfl, hlen',
        cl, _, _, _, rfl, rfl, SqL.of h3, hc, .inl ⟨_, rfl, _, _, rfl, rfl, (by show (0 : Int) < 2147483647; decide), ?_⟩⟩⟩
      have c1 := mod_lt (a := c) (b := 2147483647) (by decide)
      refine ⟨_, rfl, _, _, rfl, rfl, .inl ⟨by omega, by omega⟩, _, rfl, st, _, 2, _, rfl, rfl, SqL.of h1, at2, _, _, rfl, rfl, .inl ⟨by omega, by omega⟩, _, _, rfl, rfl, _, _, rfl, rfl, _, _, rfl, rfl, ⟨by decide, by decide, by omega⟩, .inl ⟨_, rfl, _, _, rfl, rfl, (by show (0 : Int) < 2147483647; decide), ?_⟩⟩
      have c2 := mod_lt (a := (c % 2147483647 * 48271 + (n + 1) * 69621 + 7) ^ (5 : Int).toNat) (b := 2147483647) (by decide)
      refine ⟨_, rfl, _, _, rfl, rfl, .inl ⟨by omega, by omega⟩, _, rfl, st, _, 2, _, rfl, rfl, SqL.of h1, at2, _, _, rfl, rfl, .inl ⟨by omega, by omega⟩, _, _, rfl, rfl, _, _, rfl, rfl, _, _, rfl, rfl, ⟨by decide, by decide, by omega⟩, .inl ⟨_, rfl, _, _, rfl, rfl, (by show (0 : Int) < 2147483629; decide), _, rfl, _, _, rfl, rfl, (by show (0 : Int) < size; omega), ?_⟩⟩
      exact q _ _ (mod_lt (by omega)).1 (mod_lt (by omega)).2 ⟨s3, b, cl, [], cells, n + 1, h1, h2, h3, h4, h5, h6, h7, by omega, by omega, h10⟩
    | cons x r =>
      refine ⟨_, rfl, st, _, 0, _, rfl, rfl, SqL.of h1, at0, b, _, 0, _, rfl, rfl, SqL.of h2, at0, rfl, _, rfl, ?_⟩
      by_cases hx : x = 0
      · rw [decide_eq_true (show V.int x = V.int 0 by rw [hx])]
        refine ⟨fun σ H' => σ = [some (.ref st), some (.int size), none, none, none] ∧ ∃ b, Same H0 H' ∧ H' st = some (.lst [.ref b, .ref cl, .int (n + 1)]) ∧ H' b = some (.lst (r.map V.int)) ∧ H' cl = some (.lst (cells.map V.int)) ∧ b ≠ cl ∧ H0 b = none,
          fun σ' H' ⟨e1, b, r1⟩ => ⟨r.length, by simp, e1, b, r, rfl, r1⟩, ?_⟩
        refine ⟨_, rfl, st, _, 0, _, rfl, rfl, SqL.of h1, at0, _, rfl, b, _, rfl, SqL.of h2, fun p hp => ?_⟩
        have sp : Same H3 (upd H3 p (.lst (cutV ((x :: r).map V.int) (some 1) none))) := same_upd hp
        have hcut : cutV ((x :: r).map V.int) (some 1) none = r.map V.int := by
          simp [cutV, HT.sIx]
          rw [show r.length = (r.map V.int).length by simp, List.take_length]
        rw [hcut] at sp ⊢
        have g1 := sp _ _ h1
        have g3 := sp _ _ h3
        refine ⟨_, rfl, st, _, 0, 0, rfl, rfl, g1, by rfl, rfl, p, ?_, upd_same, ?_, ?_, ?_, (Same.free s3 hp)⟩
        · exact Same.upd_after (Same.trans s3 sp) h5
        · rw [upd_ne (Ne.symm (ne_of_none h1 hp))]
          exact upd_same
        · rw [upd_ne hcl.symm]
          exact g3
        · exact Ne.symm (ne_of_none h3 hp)
      · rw [decide_eq_false (show ¬ V.int x = V.int 0 from fun z => hx (V.int.inj z))]
        refine ⟨_, rfl, st, _, 0, _, rfl, rfl, SqL.of h1, at0, Nat.zero_le _, fun e he => neI (xs := x :: r) ((same_upd he) _ _ h2) upd_same ⟨_, rfl, ?_⟩⟩
        have se : Same H3 (upd H3 e (.lst [])) := same_upd he
        have h1 := se _ _ h1
        have h2 := se _ _ h2
        have h3 := se _ _ h3
        have s3 := Same.trans s3 se
        generalize upd H3 e (.lst []) = H4 at h1 h2 h3 s3 ⊢
        refine ⟨_, rfl, st, _, 0, _, rfl, rfl, SqL.of h1, at0, b, _, 0, _, rfl, rfl, SqL.of h2, at0, .inl ⟨_, rfl, _, rfl, _, _, rfl, rfl, (by show (0 : Int) < size; omega), ?_⟩⟩
        have c1 := mod_lt (a := x) (b := size) (by omega)
        refine ⟨_, rfl, st, _, 0, _, rfl, rfl, SqL.of h1, at0, b, _, 0, _, rfl, rfl, SqL.of h2, at0, _, rfl, _, _, rfl, rfl, ⟨by omega, by omega⟩, _, rfl, st, _, 0, _, rfl, rfl, SqL.of h1, at0, b, _, 0, 0, rfl, rfl, h2, ix0 (by simp), _, rfl, ?_⟩
        have nb := ne_ints h1 h2
        refine q _ _ c1.1 c1.2 ⟨Same.upd_after s3 h6, b, cl, (x.fdiv size) :: r, cells, n + 1, ?_, upd_same, ?_, h4, h5, h6, h7, by omega, by omega, h10⟩
        · rw [upd_ne nb]
          exact h1
        · rw [upd_ne h4.symm]
          exact h3
end
end L2.K25

namespace L2.K25
open PySem PySem.Spec PyProof.Rows
/-! the law's own sets: _law_sets, _law_forced -/
def spSets : Sp := fun vs H Q _ => ∃ a N, vs = [.ref a] ∧ LNm H a N ∧ N.length ≤ 6 ∧ ∀ H' q, Same H H' → H q = none → LsA H' q (KM.allS rle N) → Q (.ref q) H'
def spForced : Sp := fun vs H Q _ => ∃ a F v c, vs = [.ref a, v] ∧ LsA H a F ∧ TS H v c ∧ (∀ f ∈ F, f.length ≤ 64) ∧ ∀ H', Same H H' → Q (.bl (KM.forced F c)) H'
theorem sub_filter (c d : List Str) : decide ((c.filter fun x => !decide (x ∈ d)) = []) = KM.sub c d := by
  rw [Bool.eq_iff_iff, decide_eq_true_eq, List.filter_eq_nil_iff, KM.sub_iff]
  constructor
  · intro h x hx
    have := h x hx
    simpa using this
  · intro h x hx
    simpa using h x hx
theorem forced_snoc (F : List (List Str)) (c d : List Str) : KM.forced (F ++ [c]) d = (KM.forced F d || KM.sub c d) := by
  rw [KM.forced_append]
  simp [KM.forced]
theorem forced_of_take {F : List (List Str)} {i : Nat} {c d : List Str} (h : F[i]? = some c) (hs : KM.sub c d = true) : KM.forced F d = true := KM.forced_iff.mpr ⟨c, List.mem_of_getElem? h, hs⟩
/-- a pair of a length and a set, kept -/
theorem PR.mono {H H' : Hp} {x : V} {c : List Str} (s : Same H H') (h : PR H x c) : PR H' x c := by
  obtain ⟨p, y, e, h1, h2⟩ := h
  exact ⟨p, y, e, s _ _ h1, h2.mono s⟩
theorem PR.updL {H : Hp} {D : Addr} {x : V} {c : List Str} {xs ys : List V} (e : H D = some (.lst xs)) (h : PR H x c) : PR (upd H D (.lst ys)) x c := by
  obtain ⟨p, y, e', h1, h2⟩ := h
  exact ⟨p, y, e', by rw [upd_ne (ne_of h1 e (by intro z; cases z))]; exact h1, h2.updL e⟩
theorem PRs.get {H : Hp} : ∀ {vs : List V} {F : List (List Str)} {i : Nat} {v : V}, Paired (PR H) vs F → vs[i]? = some v → ∃ c, F[i]? = some c ∧ PR H v c
  | _, _, _, _, .nil, e => by simp at e
  | _, _, 0, _, .cons r _, e => by simp at e; subst e; exact ⟨_, rfl, r⟩
  | _, _, i + 1, v, .cons _ t, e => by
    obtain ⟨c, h1, h2⟩ := PRs.get (i := i) (v := v) t (by simpa using e)
    exact ⟨c, by simpa using h1, h2⟩
theorem PRs.snoc {H : Hp} {v : V} {c : List Str} : ∀ {vs : List V} {F : List (List Str)}, Paired (PR H) vs F → PR H v c → Paired (PR H) (vs ++ [v]) (F ++ [c])
  | _, _, .nil, r => .cons r .nil
  | _, _, .cons q t, r => .cons q (PRs.snoc t r)
section
variable {P : Program} {w : World} {K : PySem.W.Frag} {mg : Str → Option Value} {base : Heap} {f : Addr} {fd : FuncData}
abbrev DSetsL (P w K mg base) := Df P w K mg base CX0 1 "_law_sets" sLawSets ["_law_names_here"] spSets
abbrev DForcedL (P w K mg base) := Df P w K mg base CX0 1 "_law_forced" sLawForced ["_law_sets_here", "_law_chosen"] spForced
theorem scSetsL : FnScope ["_law_names_here", "_law_found", "_law_label", "_law_chosen", "_law_pair"] ["_law_names_here"] (defScope sLawSets) := ⟨rfl, rfl, rfl, by decide +kernel, rfl, by decide +kernel, by decide +kernel⟩
theorem ok_setsL (F : Fun K "_law_sets" "_law_sets" sLawSets f fd) (T : Txt K mg) : FnOk P w K mg base CX0 1 f fd ["_law_names_here"] spSets := by
  refine F.ok scSetsL (fun vs H Q E h => ?_) (fun cdv A outer s H vs Q E hr h => ?_)
  · obtain ⟨a, N, rfl, _⟩ := h
    rfl
  · obtain ⟨a, N, rfl, hN, hl, q⟩ := h
    refine ⟨_, (pss_cons (ps_set (i := 1) scSetsL.nd rfl (Or.inl rfl) (pe_lst (pa_cons (pe_tup pa_nil) pa_nil))) (pss_cons (ps_for PassesOwn.never rfl (pi_listK K rfl (pv 0)) (pg_name (i := 2) scSetsL.nd rfl (Or.inr rfl)) (pss_one (ps_set (i := 1) scSetsL.nd rfl (Or.inl rfl) (pe_op op_cat (pv 1) (pe_lc (own := [("_law_chosen", 3)]) (g := gName 3) (tt := tYes) rfl scSetsL.nd (pi_listK K rfl (pv 1)) (blkOk_by (own := [("_law_chosen", 3)]) (N := ["_law_names_here", "_law_found", "_law_label", "_law_chosen", "_law_pair"]) (sc := defScope sLawSets) (by decide +kernel)) (fun _ _ _ _ _ => pg_name (i := 3) scSetsL.nd rfl (Or.inl rfl)) (fun _ _ _ _ _ => pts_nil) (fun _ _ _ _ _ => (pe_op (op_catAK K rfl) (pv 3) (pe_tup (pa_cons (pv 2) pa_nil))))))))) (pss_one (ps_ret (pe_lc (own := [("_law_pair", 4)]) (g := gName 4) (tt := tYes) rfl scSetsL.nd (pi_listK K rfl (pe_callB (cr_pairs hr) (by rfl) T.b_sorted (by decide +kernel) (pa_cons (pe_lc (own := [("_law_chosen", 3)]) (g := gName 3) (tt := tYes) rfl scSetsL.nd (pi_listK K rfl (pv 1)) (blkOk_by (own := [("_law_chosen", 3)]) (N := ["_law_names_here", "_law_found", "_law_label", "_law_chosen", "_law_pair"]) (sc := defScope sLawSets) (by decide +kernel)) (fun _ _ _ _ _ => pg_name (i := 3) scSetsL.nd rfl (Or.inl rfl)) (fun _ _ _ _ _ => pts_nil) (fun _ _ _ _ _ => (pe_tup (pa_cons (pe_callB (call_lenK K rfl) (by rfl) T.b_len (by decide +kernel) (pa_cons (pv 3) pa_nil)) (pa_cons (pv 3) pa_nil))))) pa_nil))) (blkOk_by (own := [("_law_pair", 4)]) (N := ["_law_names_here", "_law_found", "_law_label", "_law_chosen", "_law_pair"]) (sc := defScope sLawSets) (by decide +kernel)) (fun _ _ _ _ _ => pg_name (i := 4) scSetsL.nd rfl (Or.inl rfl)) (fun _ _ _ _ _ => pts_nil) (fun _ _ _ _ _ => (pe_ix (ix_tupK K rfl) (pv 4) pe_int (fun _ _ => rfl)))))))), ?_⟩
    refine ⟨Nat.zero_le _, fun e0 he0 => ⟨(by show 1 ≤ sizeLine; decide), fun l0 hl0 => ?_⟩⟩
    have s0 : Same H (upd (upd H e0 (.tup [])) l0 (.lst [.ref e0])) := Same.upd_after (same_upd he0) ((same_upd he0).free hl0)
    refine ⟨_, rfl, a, rfl, ⟨_, SqL.of (s0 _ _ hN)⟩, for_list (K := K) (xs := N.map V.str) (fun i σ H1 => ∃ l vs v, σ = [some (.ref a), some (.ref l), v, none, none] ∧ Same H H1 ∧ H1 l = some (.lst vs) ∧ TSs H1 vs (KM.subs (N.take i)))
      ⟨l0, _, none, rfl, s0, upd_same, .cons ⟨e0, rfl, by rw [upd_ne (ne_of_none upd_same hl0)]; exact upd_same⟩ .nil⟩ (fun i σ H1 _ ⟨_, _, _, _, z, _⟩ => SqL.of (z _ _ hN)) ?_ ?_⟩
    · rintro i y σ H1 hi ⟨l, vs, v, rfl, z, hv, hts⟩
      obtain ⟨n, hn, rfl⟩ := map_at hi
      have hvl : vs.length ≤ 64 := by rw [hts.len]; exact subs_le hl
      refine ⟨_, rfl, _, rfl, l, rfl, ⟨_, SqL.of hv⟩, fun D hD => ?_⟩
      refine lc_list (K := K) (xs := vs) (CI _ D fun j H acc => TSs H acc (((KM.subs (N.take i)).take j).map (· ++ [n]))) (CI.start hD .nil) (fun j H _ z => SqL.of (z.1 _ _ hv)) ?_ ?_
      · rintro j x H2 hj ⟨z2, acc, hD2, hal, hacc⟩
        obtain ⟨c, hc, b, rfl, hb⟩ := hts.get hj
        have hb2 := z2 _ _ hb
        refine ⟨rfl, _, rfl, _, rfl, (by show 1 ≤ sizeLine; decide), fun p hp => ?_⟩
        have s3 : Same H2 (upd H2 p (.tup [.str n])) := same_upd hp
        have hjl : j < sizeLine := by
          have := (List.getElem?_eq_some_iff.mp hj).1
          have := w64 hvl
          omega
        have fin : ∀ (H3 : Hp) (r : Addr), Same H2 H3 → H3 r = some (.tup ((c ++ [n]).map V.str)) → ∃ acc, H3 D = some (.lst acc) ∧ acc.length < sizeLine ∧ CI H1 D (fun j H acc => TSs H acc (((KM.subs (N.take i)).take j).map (· ++ [n]))) (j + 1) (upd H3 D (.lst (acc ++ [.ref r]))) := by
          intro H3 r s4 hr3
          refine CI.more hD hjl (Same.trans z2 s4) (s4 _ _ hD2) hal ?_
          rw [take_snoc hc, List.map_append]
          exact TSs.snoc ((hacc.mono s4).updL (s4 _ _ hD2)) (TS.updL (s4 _ _ hD2) ⟨r, rfl, hr3⟩)
        have hcl : c.length ≤ 64 := by
          have := KM.mem_subs.mp (List.mem_of_getElem? hc)
          have := this.length_le
          have h6 : (N.take i).length ≤ 6 := by rw [List.length_take]; omega
          omega
        refine ⟨b, p, _, _, rfl, rfl, SqT.of (s3 _ _ hb2), SqT.of upd_same, ?_, fun e => ?_, fun _ e => ?_, fun _ _ r hr => ?_⟩
        · rw [List.length_map, List.length_singleton]
          exact w4096 (by omega)
        · refine fin _ p s3 ?_
          have : c = [] := by simpa using e
          subst this
          exact upd_same
        · cases e
        · refine fin _ r (Same.trans s3 (same_upd hr)) ?_
          rw [List.map_append]
          exact upd_same
      · rintro H2 ⟨z2, acc, hD2, hal, hacc⟩
        rw [hts.len, List.take_length] at hacc
        refine ⟨l, D, vs, acc, rfl, rfl, z2 _ _ hv, hD2, w4096 (by omega), fun p hp => ?_⟩
        have s5 : Same H2 (upd H2 p (.lst (vs ++ acc))) := same_upd hp
        refine ⟨p, _, _, rfl, Same.trans z (Same.trans z2 s5), upd_same, ?_⟩
        rw [take_snoc hn, KM.subs_snoc]
        exact TSs.app ((hts.mono z2).mono s5) (hacc.mono s5)
    · rintro σ H1 ⟨l, vs, v, rfl, z, hv, hts⟩
      rw [List.length_map, List.take_length] at hts
      have hvl : vs.length ≤ 64 := by
        rw [hts.len, KM.subs_length]
        exact Nat.pow_le_pow_right (by decide) hl
      have hcl : ∀ {c : List Str}, c ∈ KM.subs N → c.length ≤ 64 := fun {c} h => by
        have := (KM.mem_subs.mp h).length_le
        omega
      refine ⟨_, rfl, l, rfl, ⟨_, SqL.of hv⟩, fun D hD => ?_⟩
      refine lc_list (K := K) (xs := vs) (CI _ D fun j H acc => Paired (PR H) acc ((KM.subs N).take j)) (CI.start hD .nil) (fun j H _ z => SqL.of (z.1 _ _ hv)) ?_ ?_
      · rintro j x H2 hj ⟨z2, acc, hD2, hal, hacc⟩
        obtain ⟨c, hc, hx⟩ := hts.get hj
        have hx2 := hx.mono z2
        obtain ⟨b, rfl, hb⟩ := hx2
        refine ⟨rfl, _, rfl, b, _, rfl, .inr (SqT.of hb), _, rfl, (by show 2 ≤ sizeLine; decide), fun p hp => ?_⟩
        have s3 := same_upd (o := .tup [.int ((c.map V.str).length : Nat), .ref b]) hp
        refine CI.more hD (by have := (List.getElem?_eq_some_iff.mp hj).1; have := w64 hvl; omega) (Same.trans z2 s3) (s3 _ _ hD2) hal ?_
        rw [take_snoc hc]
        refine PRs.snoc (Paired.mapP hacc fun _ _ r => (r.mono s3).updL (s3 _ _ hD2)) (PR.updL (s3 _ _ hD2) ⟨p, .ref b, rfl, ?_, b, rfl, s3 _ _ hb⟩)
        rw [upd_same, List.length_map]
      · rintro H2 ⟨z2, acc, hD2, hal, hacc⟩
        rw [hts.len, List.take_length] at hacc
        refine ⟨D, acc, _, rfl, SqL.of hD2, hacc, fun ys p hys hp => ?_⟩
        have s3 := same_upd (o := .lst ys) hp
        have hys3 : Paired (PR (upd H2 p (.lst ys))) ys (KM.srt rle (KM.subs N)) := Paired.mapP hys fun _ _ r => r.mono s3
        have hyl : ys.length ≤ 64 := by rw [Paired.length hys, KM.srt_length, ← hts.len]; exact hvl
        refine ⟨p, rfl, ⟨_, SqL.of upd_same⟩, fun D2 hD2' => ?_⟩
        refine lc_list (K := K) (xs := ys) (CI _ D2 fun j H acc => TSs H acc ((KM.allS rle N).take j)) (CI.start hD2' .nil) (fun j H _ z => SqL.of (z.1 _ _ upd_same)) ?_ ?_
        · rintro j x H3 hj ⟨z3, acc3, hD3, hal3, hacc3⟩
          obtain ⟨c, hc, pp, y, rfl, hpp, hy⟩ := PRs.get hys3 hj
          refine ⟨rfl, _, rfl, pp, _, 1, y, rfl, rfl, SqT.of (z3 _ _ hpp), at1, ?_⟩
          refine CI.more hD2' (by have := (List.getElem?_eq_some_iff.mp hj).1; have := w64 hyl; omega) z3 hD3 hal3 ?_
          rw [take_snoc (show (KM.allS rle N)[j]? = some c from hc)]
          exact TSs.snoc (hacc3.updL hD3) ((hy.mono z3).updL hD3)
        · rintro H3 ⟨z3, acc3, hD3, hal3, hacc3⟩
          have e : ys.length = (KM.allS rle N).length := Paired.length hys
          rw [e, List.take_length] at hacc3
          have hf : H D2 = none := by
            have h1 : Same H (upd H2 p (.lst ys)) := Same.trans z (Same.trans z2 s3)
            exact h1.free hD2'
          exact q _ D2 (Same.trans z (Same.trans z2 (Same.trans s3 z3))) hf ⟨acc3, hD3, hacc3⟩

theorem scForcedL : FnScope ["_law_sets_here", "_law_chosen", "_law_one", "_law_label"] ["_law_sets_here", "_law_chosen"] (defScope sLawForced) := ⟨rfl, rfl, rfl, by decide +kernel, rfl, by decide +kernel, by decide +kernel⟩
theorem ok_forcedL (F : Fun K "_law_forced" "_law_forced" sLawForced f fd) (T : Txt K mg) : FnOk P w K mg base CX0 1 f fd ["_law_sets_here", "_law_chosen"] spForced := by
  refine F.ok scForcedL (fun vs H Q E h => ?_) (fun cdv A outer s H vs Q E hr h => ?_)
  · obtain ⟨a, F, v, c, rfl, _⟩ := h
    rfl
  · obtain ⟨a, L, v, d, rfl, ⟨us, hu, hus⟩, hd, hL, q⟩ := h
    refine ⟨_, (pss_cons (ps_for PassesOwn.never rfl (pi_listK K rfl (pv 0)) (pg_name (i := 2) scForcedL.nd rfl (Or.inl rfl)) (pss_one (ps_if (pt_cmpR (op_eqPK K rfl hr.units) (pe_lc (own := [("_law_label", 3)]) (g := gName 3) rfl scForcedL.nd (pi_tupK K rfl (pv 2)) (blkOk_by (own := [("_law_label", 3)]) (N := ["_law_sets_here", "_law_chosen", "_law_one", "_law_label"]) (sc := defScope sLawForced) (by decide +kernel)) (fun _ _ _ _ _ => pg_name (i := 3) scForcedL.nd rfl (Or.inl rfl)) (fun _ _ _ _ _ => pts_one (pt_cmpR (op_notInK K rfl) (pv 3) (pv 1) (by rfl))) (fun _ _ _ _ _ => (pv 3))) (pe_lst pa_nil) (nomark _)) (pss_one (ps_ret pe_bl)) pss_nil))) (pss_one (ps_ret pe_bl))), ?_⟩
    refine ⟨_, rfl, a, rfl, ⟨_, SqL.of hu⟩, for_list (K := K) (xs := us) (fun i σ H1 => (∃ x, σ = [some (.ref a), some v, x, none]) ∧ Same H H1 ∧ KM.forced (L.take i) d = false) ⟨⟨none, rfl⟩, Same.refl _, rfl⟩ (fun i σ H1 _ z => SqL.of (z.2.1 _ _ hu)) ?_ ?_⟩
    · rintro i x σ H1 hi ⟨⟨x0, rfl⟩, z, hno⟩
      obtain ⟨c, hc, hx⟩ := hus.get hi
      have hx1 := hx.mono z
      obtain ⟨b, rfl, hb⟩ := hx1
      have hcl := hL c (List.mem_of_getElem? hc)
      refine ⟨_, rfl, b, rfl, ⟨_, SqT.of hb⟩, fun D hD => ?_⟩
      refine lc_tup (K := K) (xs := c.map V.str) (CI _ D fun j H acc => acc = ((c.take j).filter fun x => !decide (x ∈ d)).map V.str) (CI.start hD rfl) (fun j H _ z => SqT.of (z.1 _ _ hb)) ?_ ?_
      · rintro j y H2 hj ⟨z2, acc, hD2, hal, rfl⟩
        obtain ⟨n, hn, rfl⟩ := map_at hj
        refine ⟨rfl, _, rfl, _, rfl, notInT ((hd.mono z).mono z2) ⟨_, rfl, ?_⟩⟩
        by_cases hm : n ∈ d
        · rw [decide_eq_true hm]
          refine iteF (CI.skip z2 hD2 hal ?_)
          rw [take_snoc hn, List.filter_append]
          simp [hm]
        · rw [decide_eq_false hm]
          refine iteT ⟨_, rfl, CI.more hD (by have := (List.getElem?_eq_some_iff.mp hn).1; have := w64 hcl; omega) z2 hD2 hal ?_⟩
          rw [take_snoc hn, List.filter_append, List.map_append]
          simp [hm]
      · rintro H2 ⟨z2, acc, hD2, hal, rfl⟩
        rw [List.length_map, List.take_length] at hD2
        refine ⟨Nat.zero_le _, fun e he => ?_⟩
        have s3 := same_upd (o := .lst []) he
        refine eqN (d := []) (s3 _ _ hD2) upd_same ⟨_, rfl, ?_⟩
        rw [sub_filter]
        by_cases hs : KM.sub c d = true
        · rw [hs]
          refine iteT ?_
          have := q _ (Same.trans z (Same.trans z2 s3))
          rw [forced_of_take hc hs] at this
          exact this
        · rw [Bool.eq_false_iff.mpr hs]
          refine iteF ⟨⟨_, rfl⟩, Same.trans z (Same.trans z2 s3), ?_⟩
          rw [take_snoc hc, forced_snoc, hno, Bool.eq_false_iff.mpr hs]
          rfl
    · rintro σ H1 ⟨⟨x0, rfl⟩, z, hno⟩
      rw [hus.len, List.take_length] at hno
      have := q _ z
      rw [hno] at this
      exact this
end
end L2.K25

namespace L2.K25
open PySem PySem.Spec PyProof.Rows
/-! _law_least, _law_dual, _law_joined, _law_covers -/
def GF (N : List Str) (P : List Str → Bool) (i : Nat) : List (List Str) := ((KM.allS rle N).take i).foldl (KM.gstep P) []
section
variable {N : List Str} {P : List Str → Bool} {i : Nat} {c : List Str}
theorem GF_next (h : (KM.allS rle N)[i]? = some c) : GF N P (i + 1) = KM.gstep P (GF N P i) c := by
  unfold GF
  rw [take_snoc h, List.foldl_append]
  rfl
theorem GF_sub (i : Nat) : (GF N P i).Sublist ((KM.allS rle N).take i) := by
  unfold GF
  rw [KM.gre_filter]
  exact (KM.greedy_sublist _).trans List.filter_sublist
theorem GF_len (i : Nat) : (GF N P i).length ≤ i := by
  have := (GF_sub (N := N) (P := P) i).length_le
  rw [List.length_take] at this
  omega
theorem GF_le (hl : N.length ≤ 6) (h : c ∈ GF N P i) : c.length ≤ 64 := by
  have h1 := List.mem_of_mem_take ((GF_sub i).subset h)
  have := (KM.mem_allS.mp h1).length_le
  omega
theorem GF_end : GF N P (KM.allS rle N).length = G N P := by
  unfold GF G KM.gre
  rw [List.take_length]
end
def Found (H : Hp) (l0 p : Addr) (ys : List V) (N : List Str) (P : List Str → Bool) (i : Nat) (H1 : Hp) : Prop := Same H H1 ∧ H1 p = some (.lst ys) ∧ TSs H1 ys (KM.allS rle N) ∧ ∃ vs, H1 l0 = some (.lst vs) ∧ TSs H1 vs (GF N P i)
section
variable {H H1 H2 : Hp} {l0 p : Addr} {ys : List V} {N : List Str} {P : List Str → Bool} {i : Nat} {c : List Str} {y : V} {vs : List V}
theorem Found.keep (h : Found H l0 p ys N P i H1) (s : Same H1 H2) : Found H l0 p ys N P i H2 := by
  obtain ⟨a, b, d, vs, e, f⟩ := h
  exact ⟨Same.trans a s, s _ _ b, d.mono s, vs, s _ _ e, f.mono s⟩
theorem Found.yes (h : Found H l0 p ys N P i H1) (hn : H l0 = none) (ne : p ≠ l0) (hc : (KM.allS rle N)[i]? = some c) (hy : TS H1 y c) (hP : P c = true) (hf : KM.forced (GF N P i) c = false) (e : H1 l0 = some (.lst vs)) :
    Found H l0 p ys N P (i + 1) (upd H1 l0 (.lst (vs ++ [y]))) := by
  obtain ⟨a, b, d, ws, e', f⟩ := h
  rw [e] at e'
  cases e'
  refine ⟨Same.upd_after a hn, by rw [upd_ne ne]; exact b, d.updL e, _, upd_same, ?_⟩
  rw [GF_next hc, KM.gstep, hP, hf]
  exact TSs.snoc (f.updL e) (hy.updL e)
theorem Found.no (h : Found H l0 p ys N P i H1) (hc : (KM.allS rle N)[i]? = some c) (hno : (P c && !KM.forced (GF N P i) c) = false) : Found H l0 p ys N P (i + 1) H1 := by
  obtain ⟨a, b, d, ws, e', f⟩ := h
  refine ⟨a, b, d, ws, e', ?_⟩
  rw [GF_next hc, KM.gstep, hno]
  exact f
theorem Found.lsA (h : Found H l0 p ys N P (KM.allS rle N).length H1) : LsA H1 l0 (G N P) := by
  obtain ⟨a, b, d, ws, e', f⟩ := h
  rw [GF_end] at f
  exact ⟨ws, e', f⟩
theorem Found.at_ (h : Found H l0 p ys N P i H1) : LsA H1 l0 (GF N P i) := by
  obtain ⟨a, b, d, ws, e', f⟩ := h
  exact ⟨ws, e', f⟩
theorem Found.len (hl : N.length ≤ 6) (hi : i < ys.length) (h : Found H l0 p ys N P i H1) (e : H1 l0 = some (.lst vs)) : vs.length < sizeLine := by
  obtain ⟨a, b, d, ws, e', f⟩ := h
  rw [e] at e'
  cases e'
  have h1 := f.len
  have h2 := GF_len (N := N) (P := P) i
  have h3 := d.len
  have h4 := allS_le hl
  rw [sizeLine_eq]
  omega
end
def spLeast : Sp := fun vs H Q _ => ∃ a s N F, vs = [.ref a, .ref s] ∧ LNm H a N ∧ LsA H s F ∧ N.length ≤ 6 ∧ (∀ f ∈ F, f.length ≤ 64) ∧ ∀ H' q, Same H H' → H q = none → LsA H' q (G N (KM.forced F)) → Q (.ref q) H'
def spDualL : Sp := fun vs H Q _ => ∃ a s N F, vs = [.ref a, .ref s] ∧ LNm H a N ∧ LsA H s F ∧ N.length ≤ 6 ∧ F.length ≤ 4096 ∧ (∀ f ∈ F, f.length ≤ 64) ∧ ∀ H' q, Same H H' → H q = none → LsA H' q (G N (KM.meets F)) → Q (.ref q) H'
def both (b : Bool) (x y : Bool) : Bool := if b then x && y else x || y
def spJoined : Sp := fun vs H Q _ => ∃ a s t N F F' b, vs = [.ref a, .ref s, .ref t, .bl b] ∧ LNm H a N ∧ LsA H s F ∧ LsA H t F' ∧ N.length ≤ 6 ∧ (∀ f ∈ F, f.length ≤ 64) ∧ (∀ f ∈ F', f.length ≤ 64) ∧
  ∀ H' q, Same H H' → TsA H' q (G N fun c => both b (KM.forced F c) (KM.forced F' c)) → Q (.ref q) H'
def spCoversL : Sp := fun vs H Q _ => ∃ a s t N F F', vs = [.ref a, .ref s, .ref t] ∧ LNm H a N ∧ LsA H s F ∧ LsA H t F' ∧ N.length ≤ 6 ∧ (∀ f ∈ F, f.length ≤ 64) ∧ (∀ f ∈ F', f.length ≤ 64) ∧
  ∀ H', Same H H' → Q (.bl ((KM.allS rle N).all fun c => !(KM.forced F' c) || KM.forced F c)) H'
section
variable {P : Program} {w : World} {K : PySem.W.Frag} {mg : Str → Option Value} {base : Heap} {f : Addr} {fd : FuncData}
abbrev DLeast (P w K mg base) := Df P w K mg base CX0 2 "_law_least" sLawLeast ["_law_names_here", "_law_sets_here"] spLeast
abbrev DDualL (P w K mg base) := Df P w K mg base CX0 2 "_law_dual" sLawDual ["_law_names_here", "_law_sets_here"] spDualL
abbrev DJoined (P w K mg base) := Df P w K mg base CX0 2 "_law_joined" sLawJoined ["_law_names_here", "_law_one", "_law_two", "_law_both"] spJoined
abbrev DCoversL (P w K mg base) := Df P w K mg base CX0 2 "_law_covers" sLawCovers ["_law_names_here", "_law_one", "_law_two"] spCoversL
theorem scLeast : FnScope ["_law_names_here", "_law_sets_here", "_law_found", "_law_chosen"] ["_law_names_here", "_law_sets_here"] (defScope sLawLeast) := ⟨rfl, rfl, rfl, by decide +kernel, rfl, by decide +kernel, by decide +kernel⟩
theorem ok_least (F : Fun K "_law_least" "_law_least" sLawLeast f fd) (T : Txt K mg) (G__law_sets : DSetsL P w K mg base) (G__law_forced : DForcedL P w K mg base) : FnOk P w K mg base CX0 2 f fd ["_law_names_here", "_law_sets_here"] spLeast := by
  refine F.ok scLeast (fun vs H Q E h => ?_) (fun cdv A outer s H vs Q E hr h => ?_)
  · obtain ⟨a, s, N, F, rfl, _⟩ := h
    rfl
  · obtain ⟨a, st, N, L, rfl, hN, hL, hl, hLf, q⟩ := h
    refine ⟨_, (pss_cons (ps_set (i := 2) scLeast.nd rfl (Or.inl rfl) (pe_lst pa_nil)) (pss_cons (ps_for PassesOwn.never rfl (pi_listK K rfl (pe_call G__law_sets.ok (hr.mono (by decide)) rfl G__law_sets.m G__law_sets.kp G__law_sets.b .nil pass0 (pa_cons (pv 0) pa_nil))) (pg_name (i := 3) scLeast.nd rfl (Or.inl rfl)) (pss_one (ps_if (PW.pt (pw_and (pt_val (pe_call G__law_forced.ok (hr.mono (by decide)) rfl G__law_forced.m G__law_forced.kp G__law_forced.b .nil pass0 (pa_cons (pv 1) (pa_cons (pv 3) pa_nil)))) (pw_and1 (pt_not (pt_val (pe_call G__law_forced.ok (hr.mono (by decide)) rfl G__law_forced.m G__law_forced.kp G__law_forced.b .nil pass0 (pa_cons (pv 2) (pa_cons (pv 3) pa_nil)))))))) (pss_one (ps_expr (pe_bmK K rfl PySem.F.plainAttrs_list PySem.F.slot_list_append PySem.F.type_list_append mt_append (pv 2) (pa_cons (pv 3) pa_nil)))) pss_nil))) (pss_one (ps_ret (pv 2))))), ?_⟩
    refine ⟨Nat.zero_le _, fun l0 hl0 => ?_⟩
    have s0 : Same H (upd H l0 (.lst [])) := same_upd hl0
    refine ⟨_, rfl, a, N, rfl, s0 _ _ hN, hl, fun H1 p s1 hpn ⟨ys, hp, hys⟩ => ?_⟩
    have npl : p ≠ l0 := fun e => by rw [e, upd_same] at hpn; cases hpn
    refine ⟨p, rfl, ⟨_, SqL.of hp⟩, for_list (K := K) (xs := ys) (fun i σ H2 => (∃ v, σ = [some (.ref a), some (.ref st), some (.ref l0), v]) ∧ Found H l0 p ys N (KM.forced L) i H2)
      ⟨⟨none, rfl⟩, Same.trans s0 s1, hp, hys, [], s1 _ _ upd_same, .nil⟩ (fun i σ H2 _ z => SqL.of z.2.2.1) ?_ ?_⟩
    · rintro i y σ H2 hi ⟨⟨v, rfl⟩, hF⟩
      obtain ⟨c, hc, hy⟩ := hF.2.2.1.get hi
      have hix := (List.getElem?_eq_some_iff.mp hi).1
      refine ⟨_, rfl, _, rfl, st, L, y, c, rfl, hL.mono hF.1, hy, hLf, fun H3 s3 => ⟨_, rfl, ?_⟩⟩
      have hF3 := hF.keep s3
      by_cases h1 : KM.forced L c = true
      · rw [h1]
        refine iteT ⟨_, rfl, _, rfl, l0, _, y, c, rfl, hF3.at_, hy.mono s3, fun f h => GF_le hl h, fun H4 s4 => ⟨_, rfl, ?_⟩⟩
        have hF4 := hF3.keep s4
        cases h2 : KM.forced (GF N (KM.forced L) i) c with
        | true => exact ⟨⟨_, rfl⟩, hF4.no hc (by rw [h1, h2]; rfl)⟩
        | false =>
          obtain ⟨ws, e4⟩ : ∃ ws, H4 l0 = some (.lst ws) := let ⟨ws, e, _⟩ := hF4.at_; ⟨ws, e⟩
          exact ⟨_, rfl, .inl ⟨rfl, _, SqL.of e4⟩, _, rfl, l0, ws, y, rfl, rfl, e4, hF4.len hl hix e4, ⟨_, rfl⟩, hF4.yes hl0 npl hc ((hy.mono s3).mono s4) h1 h2 e4⟩
      · rw [Bool.eq_false_iff.mpr h1]
        exact ⟨⟨_, rfl⟩, hF3.no hc (by rw [Bool.eq_false_iff.mpr h1]; rfl)⟩
    · rintro σ H2 ⟨⟨v, rfl⟩, hF⟩
      rw [hF.2.2.1.len] at hF
      exact ⟨_, rfl, q _ l0 hF.1 hl0 hF.lsA⟩

theorem scDualL : FnScope ["_law_names_here", "_law_sets_here", "_law_found", "_law_chosen", "_law_apart_here", "_law_one", "_law_label"] ["_law_names_here", "_law_sets_here"] (defScope sLawDual) := ⟨rfl, rfl, rfl, by decide +kernel, rfl, by decide +kernel, by decide +kernel⟩
theorem apart_none (F : List (List Str)) (c : List Str) : decide ((F.filter fun x => decide ((x.filter fun y => decide (y ∈ c)) = [])) = []) = KM.meets F c := by
  rw [Bool.eq_iff_iff, decide_eq_true_eq, List.filter_eq_nil_iff]
  unfold KM.meets
  rw [List.all_eq_true]
  refine forall_congr' fun x => forall_congr' fun hx => ?_
  rw [decide_eq_true_eq, List.filter_eq_nil_iff, List.any_eq_true]
  constructor
  · intro h
    apply Classical.byContradiction
    intro hn
    exact h fun y hy hd => hn ⟨y, hy, hd⟩
  · rintro ⟨y, hy, hd⟩ h
    exact h y hy hd
theorem ok_dualL (F : Fun K "_law_dual" "_law_dual" sLawDual f fd) (T : Txt K mg) (G__law_sets : DSetsL P w K mg base) (G__law_forced : DForcedL P w K mg base) : FnOk P w K mg base CX0 2 f fd ["_law_names_here", "_law_sets_here"] spDualL := by
  refine F.ok scDualL (fun vs H Q E h => ?_) (fun cdv A outer s H vs Q E hr h => ?_)
  · obtain ⟨a, s, N, F, rfl, _⟩ := h
    rfl
  · obtain ⟨a, st, N, L, rfl, hN, ⟨us, hu, hus⟩, hl, hlL, hLf, q⟩ := h
    refine ⟨_, (pss_cons (ps_set (i := 2) scDualL.nd rfl (Or.inl rfl) (pe_lst pa_nil)) (pss_cons (ps_for PassesOwn.never rfl (pi_listK K rfl (pe_call G__law_sets.ok (hr.mono (by decide)) rfl G__law_sets.m G__law_sets.kp G__law_sets.b .nil pass0 (pa_cons (pv 0) pa_nil))) (pg_name (i := 3) scDualL.nd rfl (Or.inr rfl)) (pss_cons (ps_setLc (i := 4) (own := [("_law_one", 5)]) (g := gName 5) rfl scDualL.nd rfl rfl (sw_true rfl rfl rfl (by decide +kernel)) (pi_listK K rfl (pv 1)) (blkOk_by (own := [("_law_one", 5)]) (N := ["_law_names_here", "_law_sets_here", "_law_found", "_law_chosen", "_law_apart_here", "_law_one", "_law_label"]) (sc := defScope sLawDual) (by decide +kernel)) (fun _ _ _ _ _ => pg_name (i := 5) scDualL.nd rfl (Or.inl rfl)) (fun _ _ _ _ _ => pts_one (pt_cmpR (op_eqPK K rfl hr.units) (pe_lc (own := [("_law_label", 6)]) (g := gName 6) rfl scDualL.nd (pi_tupK K rfl (pv 5)) (blkOk_by (own := [("_law_label", 6)]) (N := ["_law_names_here", "_law_sets_here", "_law_found", "_law_chosen", "_law_apart_here", "_law_one", "_law_label"]) (sc := { kind := .function, names := [(".0", .local), ("_law_one", .local), ("_law_chosen", .cell)], isGenerator := false, isCoroutine := false }) (by decide +kernel)) (fun _ _ _ _ _ => pg_name (i := 6) scDualL.nd rfl (Or.inl rfl)) (fun _ _ _ _ _ => pts_one (pt_cmpR (op_inK K rfl) (pv 6) (pv 3) (by rfl))) (fun _ _ _ _ _ => (pv 6))) (pe_lst pa_nil) (nomark _))) (fun _ _ _ _ _ => (pv 5))) (pss_one (ps_if (PW.pt (pw_and (pt_cmpR (op_eqPK K rfl hr.units) (pv 4) (pe_lst pa_nil) (nomark _)) (pw_and1 (pt_not (pt_val (pe_call G__law_forced.ok (hr.mono (by decide)) rfl G__law_forced.m G__law_forced.kp G__law_forced.b .nil pass0 (pa_cons (pv 2) (pa_cons (pv 3) pa_nil)))))))) (pss_one (ps_expr (pe_bmK K rfl PySem.F.plainAttrs_list PySem.F.slot_list_append PySem.F.type_list_append mt_append (pv 2) (pa_cons (pv 3) pa_nil)))) pss_nil)))) (pss_one (ps_ret (pv 2))))), ?_⟩
    refine ⟨Nat.zero_le _, fun l0 hl0 => ?_⟩
    have s0 : Same H (upd H l0 (.lst [])) := same_upd hl0
    refine ⟨_, rfl, a, N, rfl, s0 _ _ hN, hl, fun H1 p s1 hpn ⟨ys, hp, hys⟩ => ?_⟩
    have npl : p ≠ l0 := fun e => by rw [e, upd_same] at hpn; cases hpn
    refine ⟨p, rfl, ⟨_, SqL.of hp⟩, for_list (K := K) (xs := ys) (fun i σ H2 => (∃ v v', σ = [some (.ref a), some (.ref st), some (.ref l0), v, v', none, none]) ∧ Found H l0 p ys N (KM.meets L) i H2)
      ⟨⟨none, none, rfl⟩, Same.trans s0 s1, hp, hys, [], s1 _ _ upd_same, .nil⟩ (fun i σ H2 _ z => SqL.of z.2.2.1) ?_ ?_⟩
    · rintro i y σ H2 hi ⟨⟨v, v', rfl⟩, hF⟩
      obtain ⟨c, hc, hy⟩ := hF.2.2.1.get hi
      have hix := (List.getElem?_eq_some_iff.mp hi).1
      have hu2 := hF.1 _ _ hu
      have hus2 := hus.mono hF.1
      refine ⟨_, rfl, st, rfl, ⟨_, SqL.of hu2⟩, fun D hD => ?_⟩
      refine lc_list (K := K) (xs := us) (CI _ D fun j H acc => TSs H acc ((L.take j).filter fun x => decide ((x.filter fun y => decide (y ∈ c)) = []))) (CI.start hD .nil) (fun j H _ z => SqL.of (z.1 _ _ hu2)) ?_ ?_
      · rintro j x H3 hj ⟨z3, acc, hD3, hal, hacc⟩
        obtain ⟨o, ho, hx⟩ := hus2.get hj
        obtain ⟨b, rfl, hb⟩ := hx.mono z3
        have hol := hLf o (List.mem_of_getElem? ho)
        refine ⟨rfl, _, rfl, b, rfl, ⟨_, SqT.of hb⟩, fun D2 hD2 => ?_⟩
        refine lc_tup (K := K) (xs := o.map V.str) (CI _ D2 fun k H acc => acc = ((o.take k).filter fun y => decide (y ∈ c)).map V.str) (CI.start hD2 rfl) (fun k H _ z => SqT.of (z.1 _ _ hb)) ?_ ?_
        · rintro k n0 H4 hk ⟨z4, acc4, hD4, hal4, rfl⟩
          obtain ⟨n, hn, rfl⟩ := map_at hk
          refine ⟨rfl, _, rfl, _, rfl, inT ((hy.mono z3).mono z4) ⟨_, rfl, ?_⟩⟩
          by_cases hm : n ∈ c
          · rw [decide_eq_true hm]
            refine iteT ⟨_, rfl, CI.more hD2 (by have := (List.getElem?_eq_some_iff.mp hn).1; have := w64 hol; omega) z4 hD4 hal4 ?_⟩
            rw [take_snoc hn, List.filter_append, List.map_append]
            simp [hm]
          · rw [decide_eq_false hm]
            refine iteF (CI.skip z4 hD4 hal4 ?_)
            rw [take_snoc hn, List.filter_append]
            simp [hm]
        · rintro H4 ⟨z4, acc4, hD4, hal4, rfl⟩
          rw [List.length_map, List.take_length] at hD4
          refine ⟨Nat.zero_le _, fun e he => ?_⟩
          have s5 := same_upd (o := .lst []) he
          refine eqN (d := []) (s5 _ _ hD4) upd_same ⟨_, rfl, ?_⟩
          have z5 := Same.trans z3 (Same.trans z4 s5)
          have hD5 := s5 _ _ (z4 _ _ hD3)
          have hacc5 := (hacc.mono z4).mono s5
          by_cases hm : (o.filter fun y => decide (y ∈ c)) = []
          · rw [decide_eq_true hm]
            refine iteT ⟨_, rfl, CI.more hD (by have := (List.getElem?_eq_some_iff.mp ho).1; have := w4096 hlL; omega) z5 hD5 hal ?_⟩
            rw [take_snoc ho, List.filter_append, show [o].filter (fun x => decide ((x.filter fun y => decide (y ∈ c)) = [])) = [o] by simp only [List.filter_cons, hm, decide_true, if_true, List.filter_nil]]
            exact TSs.snoc (hacc5.updL hD5) (TS.updL hD5 ⟨b, rfl, s5 _ _ (z4 _ _ hb)⟩)
          · rw [decide_eq_false hm]
            refine iteF (CI.skip z5 hD5 hal ?_)
            rw [take_snoc ho, List.filter_append, show [o].filter (fun x => decide ((x.filter fun y => decide (y ∈ c)) = [])) = [] by simp only [List.filter_cons, decide_eq_false hm, Bool.false_eq_true, if_false, List.filter_nil]]
            simpa using hacc5
      · rintro H3 ⟨z3, acc, hD3, hal, hacc⟩
        rw [hus.len, List.take_length] at hacc
        refine ⟨_, rfl, Nat.zero_le _, fun e he => ?_⟩
        have s4 := same_upd (o := .lst []) he
        refine eqLs (G := []) ⟨acc, s4 _ _ hD3, hacc.mono s4⟩ ⟨[], upd_same, .nil⟩ ⟨_, rfl, ?_⟩
        rw [apart_none]
        have hF4 := (hF.keep z3).keep s4
        by_cases h1 : KM.meets L c = true
        · rw [h1]
          refine iteT ⟨_, rfl, _, rfl, l0, _, y, c, rfl, hF4.at_, (hy.mono z3).mono s4, fun f h => GF_le hl h, fun H5 s5 => ⟨_, rfl, ?_⟩⟩
          have hF5 := hF4.keep s5
          cases h2 : KM.forced (GF N (KM.meets L) i) c with
          | true => exact ⟨⟨_, _, rfl⟩, hF5.no hc (by rw [h1, h2]; rfl)⟩
          | false =>
            obtain ⟨ws, e5⟩ : ∃ ws, H5 l0 = some (.lst ws) := let ⟨ws, e, _⟩ := hF5.at_; ⟨ws, e⟩
            exact ⟨_, rfl, .inl ⟨rfl, _, SqL.of e5⟩, _, rfl, l0, ws, y, rfl, rfl, e5, hF5.len hl hix e5, ⟨_, _, rfl⟩, hF5.yes hl0 npl hc (((hy.mono z3).mono s4).mono s5) h1 h2 e5⟩
        · rw [Bool.eq_false_iff.mpr h1]
          exact ⟨⟨_, _, rfl⟩, hF4.no hc (by rw [Bool.eq_false_iff.mpr h1]; rfl)⟩
    · rintro σ H2 ⟨⟨v, v', rfl⟩, hF⟩
      rw [hF.2.2.1.len] at hF
      exact ⟨_, rfl, q _ l0 hF.1 hl0 hF.lsA⟩
end
end L2.K25

namespace L2.K25
open PySem PySem.Spec PyProof.Rows
section
variable {K : PySem.W.Frag} {H : Hp} {Q : VK}
/-- two truths in a row -/
theorem eqB2 {a e : Addr} {x y : Bool} (h1 : H a = some (.lst [.bl x, .bl y])) (h2 : H e = some (.lst [.bl true, .bl true])) (q : Q (.bl (x && y)) H) : rEqP K (.ref a) (.ref e) H Q := by
  refine ⟨.list [.bool x, .bool y], .list [.bool true, .bool true], .lst (SqL.of h1) (.cons (.bl x) (.cons (.bl y) .nil)), .lst (SqL.of h2) (.cons (.bl true) (.cons (.bl true) .nil)), ?_, ?_, ?_⟩
  · cases x <;> cases y <;> simp [shp, PyData.plain, PyData.plainAll, PyData.depth, PyData.depthAll]
  · simp [shp, PyData.plain, PyData.plainAll, PyData.depth, PyData.depthAll]
  · have e : PyData.eqv (.list [.bool x, .bool y]) (.list [.bool true, .bool true]) = (x && y) := by
      cases x <;> cases y <;> simp [PyData.eqv, PyData.eqvAll]
    rw [e]
    exact q
theorem inB2 {a : Addr} {x y : Bool} (h1 : H a = some (.lst [.bl x, .bl y])) (q : Q (.bl (x || y)) H) : rIn K false (.bl true) (.ref a) H Q := by
  refine ⟨a, _, rfl, .inl (SqL.of h1), rfl, rfl, ?_⟩
  have e : inV (.bl true) [.bl x, .bl y] = (x || y) := by cases x <;> cases y <;> rfl
  rw [e]
  exact q
end
section
variable {P : Program} {w : World} {K : PySem.W.Frag} {mg : Str → Option Value} {base : Heap} {f : Addr} {fd : FuncData}
theorem scJoined : FnScope ["_law_names_here", "_law_one", "_law_two", "_law_both", "_law_found", "_law_chosen", "_law_told_here"] ["_law_names_here", "_law_one", "_law_two", "_law_both"] (defScope sLawJoined) := ⟨rfl, rfl, rfl, by decide +kernel, rfl, by decide +kernel, by decide +kernel⟩
theorem ok_joined (F : Fun K "_law_joined" "_law_joined" sLawJoined f fd) (T : Txt K mg) (G__law_sets : DSetsL P w K mg base) (G__law_forced : DForcedL P w K mg base) : FnOk P w K mg base CX0 2 f fd ["_law_names_here", "_law_one", "_law_two", "_law_both"] spJoined := by
  refine F.ok scJoined (fun vs H Q E h => ?_) (fun cdv A outer s H vs Q E hr h => ?_)
  · obtain ⟨a, s, t, N, F, F', b, rfl, _⟩ := h
    rfl
  · obtain ⟨a, st, tt, N, L, L', b, rfl, hN, hL, hL', hl, hLf, hLf', q⟩ := h
    refine ⟨_, (pss_cons (ps_set (i := 4) scJoined.nd rfl (Or.inl rfl) (pe_lst pa_nil)) (pss_cons (ps_for PassesOwn.never rfl (pi_listK K rfl (pe_call G__law_sets.ok (hr.mono (by decide)) rfl G__law_sets.m G__law_sets.kp G__law_sets.b .nil pass0 (pa_cons (pv 0) pa_nil))) (pg_name (i := 5) scJoined.nd rfl (Or.inl rfl)) (pss_cons (ps_set (i := 6) scJoined.nd rfl (Or.inl rfl) (pe_lst (pa_cons (pe_call G__law_forced.ok (hr.mono (by decide)) rfl G__law_forced.m G__law_forced.kp G__law_forced.b .nil pass0 (pa_cons (pv 1) (pa_cons (pv 5) pa_nil))) (pa_cons (pe_call G__law_forced.ok (hr.mono (by decide)) rfl G__law_forced.m G__law_forced.kp G__law_forced.b .nil pass0 (pa_cons (pv 2) (pa_cons (pv 5) pa_nil))) pa_nil)))) (pss_one (ps_if (PW.pt (pw_and (PW.pt (pw_or (pt_cmpR (op_eqPK K rfl hr.units) (pv 6) (pe_lst (pa_cons pe_bl (pa_cons pe_bl pa_nil))) (nomark _)) (pw_or1 (PW.pt (pw_and (pt_not (pt_val (pv 3))) (pw_and1 (pt_cmpR (op_inK K rfl) pe_bl (pv 6) (by rfl)))))))) (pw_and1 (pt_not (pt_val (pe_call G__law_forced.ok (hr.mono (by decide)) rfl G__law_forced.m G__law_forced.kp G__law_forced.b .nil pass0 (pa_cons (pv 4) (pa_cons (pv 5) pa_nil)))))))) (pss_one (ps_expr (pe_bmK K rfl PySem.F.plainAttrs_list PySem.F.slot_list_append PySem.F.type_list_append mt_append (pv 4) (pa_cons (pv 5) pa_nil)))) pss_nil)))) (pss_one (ps_ret (pe_callTy (call_tupleK K rfl) (by rfl) T.b_tuple (by decide +kernel) (pa_cons (pv 4) pa_nil)))))), ?_⟩
    refine ⟨Nat.zero_le _, fun l0 hl0 => ?_⟩
    have s0 : Same H (upd H l0 (.lst [])) := same_upd hl0
    refine ⟨_, rfl, a, N, rfl, s0 _ _ hN, hl, fun H1 p s1 hpn ⟨ys, hp, hys⟩ => ?_⟩
    have npl : p ≠ l0 := fun e => by rw [e, upd_same] at hpn; cases hpn
    refine ⟨p, rfl, ⟨_, SqL.of hp⟩, for_list (K := K) (xs := ys) (fun i σ H2 => (∃ v v', σ = [some (.ref a), some (.ref st), some (.ref tt), some (.bl b), some (.ref l0), v, v']) ∧ Found H l0 p ys N (fun c => both b (KM.forced L c) (KM.forced L' c)) i H2)
      ⟨⟨none, none, rfl⟩, Same.trans s0 s1, hp, hys, [], s1 _ _ upd_same, .nil⟩ (fun i σ H2 _ z => SqL.of z.2.2.1) ?_ ?_⟩
    · rintro i y σ H2 hi ⟨⟨v, v', rfl⟩, hF⟩
      obtain ⟨c, hc, hy⟩ := hF.2.2.1.get hi
      have hix := (List.getElem?_eq_some_iff.mp hi).1
      refine ⟨_, rfl, _, rfl, st, L, y, c, rfl, hL.mono hF.1, hy, hLf, fun H3 s3 => ?_⟩
      refine ⟨_, rfl, _, rfl, tt, L', y, c, rfl, (hL'.mono hF.1).mono s3, hy.mono s3, hLf', fun H4 s4 => ⟨(by show 2 ≤ sizeLine; decide), fun t0 ht0 => ?_⟩⟩
      have s5 := same_upd (o := .lst [.bl (KM.forced L c), .bl (KM.forced L' c)]) ht0
      refine ⟨_, rfl, (by show 2 ≤ sizeLine; decide), fun e0 he0 => ?_⟩
      have s6 := same_upd (o := .lst [.bl true, .bl true]) he0
      have g0 := s6 _ _ upd_same
      refine eqB2 g0 upd_same ⟨_, rfl, ?_⟩
      have hF6 := ((hF.keep s3).keep s4).keep (Same.trans s5 s6)
      have hy6 := ((hy.mono s3).mono s4).mono (Same.trans s5 s6)
      generalize upd (upd H4 t0 (.lst [.bl (KM.forced L c), .bl (KM.forced L' c)])) e0 (.lst [.bl true, .bl true]) = H6 at g0 hF6 hy6 ⊢
      cases hx : KM.forced L c with
      | true =>
        cases hx' : KM.forced L' c with
        | true =>
          refine iteT ⟨_, rfl, _, rfl, l0, _, y, c, rfl, hF6.at_, hy6, fun f h => GF_le hl h, fun H7 s7 => ⟨_, rfl, ?_⟩⟩
          have hF7 := hF6.keep s7
          cases h2 : KM.forced (GF N (fun c => both b (KM.forced L c) (KM.forced L' c)) i) c with
          | true => exact ⟨⟨_, _, rfl⟩, hF7.no hc (by rw [h2]; simp)⟩
          | false =>
            obtain ⟨ws, e7⟩ : ∃ ws, H7 l0 = some (.lst ws) := let ⟨ws, e, _⟩ := hF7.at_; ⟨ws, e⟩
            exact ⟨_, rfl, .inl ⟨rfl, _, SqL.of e7⟩, _, rfl, l0, ws, y, rfl, rfl, e7, hF7.len hl hix e7, ⟨_, _, rfl⟩, hF7.yes hl0 npl hc (hy6.mono s7) (by show both _ _ _ = true; rw [hx, hx']; cases b <;> rfl) h2 e7⟩

        | false =>
          rw [hx, hx'] at g0
          refine ⟨_, rfl, b, rfl, ?_⟩
          cases b with
          | true => exact ⟨⟨_, _, rfl⟩, hF6.no hc (by show (both _ _ _ && _) = false; rw [hx, hx']; rfl)⟩
          | false =>
            refine ⟨_, rfl, inB2 g0 ⟨_, rfl, ?_⟩⟩
            refine iteT ⟨_, rfl, _, rfl, l0, _, y, c, rfl, hF6.at_, hy6, fun f h => GF_le hl h, fun H7 s7 => ⟨_, rfl, ?_⟩⟩
            have hF7 := hF6.keep s7
            cases h2 : KM.forced (GF N (fun c => both false (KM.forced L c) (KM.forced L' c)) i) c with
            | true => exact ⟨⟨_, _, rfl⟩, hF7.no hc (by rw [h2]; simp)⟩
            | false =>
              obtain ⟨ws, e7⟩ : ∃ ws, H7 l0 = some (.lst ws) := let ⟨ws, e, _⟩ := hF7.at_; ⟨ws, e⟩
              exact ⟨_, rfl, .inl ⟨rfl, _, SqL.of e7⟩, _, rfl, l0, ws, y, rfl, rfl, e7, hF7.len hl hix e7, ⟨_, _, rfl⟩, hF7.yes hl0 npl hc (hy6.mono s7) (by show both _ _ _ = true; rw [hx, hx']; rfl) h2 e7⟩

      | false =>
        cases hx' : KM.forced L' c with
        | true =>
          rw [hx, hx'] at g0
          refine ⟨_, rfl, b, rfl, ?_⟩
          cases b with
          | true => exact ⟨⟨_, _, rfl⟩, hF6.no hc (by show (both _ _ _ && _) = false; rw [hx, hx']; rfl)⟩
          | false =>
            refine ⟨_, rfl, inB2 g0 ⟨_, rfl, ?_⟩⟩
            refine iteT ⟨_, rfl, _, rfl, l0, _, y, c, rfl, hF6.at_, hy6, fun f h => GF_le hl h, fun H7 s7 => ⟨_, rfl, ?_⟩⟩
            have hF7 := hF6.keep s7
            cases h2 : KM.forced (GF N (fun c => both false (KM.forced L c) (KM.forced L' c)) i) c with
            | true => exact ⟨⟨_, _, rfl⟩, hF7.no hc (by rw [h2]; simp)⟩
            | false =>
              obtain ⟨ws, e7⟩ : ∃ ws, H7 l0 = some (.lst ws) := let ⟨ws, e, _⟩ := hF7.at_; ⟨ws, e⟩
              exact ⟨_, rfl, .inl ⟨rfl, _, SqL.of e7⟩, _, rfl, l0, ws, y, rfl, rfl, e7, hF7.len hl hix e7, ⟨_, _, rfl⟩, hF7.yes hl0 npl hc (hy6.mono s7) (by show both _ _ _ = true; rw [hx, hx']; rfl) h2 e7⟩

        | false =>
          rw [hx, hx'] at g0
          refine ⟨_, rfl, b, rfl, ?_⟩
          cases b with
          | true => exact ⟨⟨_, _, rfl⟩, hF6.no hc (by show (both _ _ _ && _) = false; rw [hx, hx']; rfl)⟩
          | false =>
            refine ⟨_, rfl, inB2 g0 ⟨_, rfl, ?_⟩⟩
            exact ⟨⟨_, _, rfl⟩, hF6.no hc (by show (both _ _ _ && _) = false; rw [hx, hx']; rfl)⟩
    · rintro σ H2 ⟨⟨v, v', rfl⟩, hF⟩
      rw [hF.2.2.1.len] at hF
      obtain ⟨ws, e2, hws⟩ := hF.lsA
      refine ⟨_, rfl, l0, ws, rfl, .inl ⟨SqL.of e2, fun t ht => ?_⟩⟩
      have s3 := same_upd (o := .tup ws) ht
      exact q _ t (Same.trans hF.1 s3) ⟨ws, upd_same, hws.mono s3⟩

theorem scCoversL : FnScope ["_law_names_here", "_law_one", "_law_two", "_law_chosen"] ["_law_names_here", "_law_one", "_law_two"] (defScope sLawCovers) := ⟨rfl, rfl, rfl, by decide +kernel, rfl, by decide +kernel, by decide +kernel⟩
theorem ok_coversL (F : Fun K "_law_covers" "_law_covers" sLawCovers f fd) (T : Txt K mg) (G__law_sets : DSetsL P w K mg base) (G__law_forced : DForcedL P w K mg base) : FnOk P w K mg base CX0 2 f fd ["_law_names_here", "_law_one", "_law_two"] spCoversL := by
  refine F.ok scCoversL (fun vs H Q E h => ?_) (fun cdv A outer s H vs Q E hr h => ?_)
  · obtain ⟨a, s, t, N, F, F', rfl, _⟩ := h
    rfl
  · obtain ⟨a, st, tt, N, L, L', rfl, hN, hL, hL', hl, hLf, hLf', q⟩ := h
    refine ⟨_, (pss_cons (ps_for PassesOwn.never rfl (pi_listK K rfl (pe_call G__law_sets.ok (hr.mono (by decide)) rfl G__law_sets.m G__law_sets.kp G__law_sets.b .nil pass0 (pa_cons (pv 0) pa_nil))) (pg_name (i := 3) scCoversL.nd rfl (Or.inl rfl)) (pss_one (ps_if (PW.pt (pw_and (pt_val (pe_call G__law_forced.ok (hr.mono (by decide)) rfl G__law_forced.m G__law_forced.kp G__law_forced.b .nil pass0 (pa_cons (pv 2) (pa_cons (pv 3) pa_nil)))) (pw_and1 (pt_not (pt_val (pe_call G__law_forced.ok (hr.mono (by decide)) rfl G__law_forced.m G__law_forced.kp G__law_forced.b .nil pass0 (pa_cons (pv 1) (pa_cons (pv 3) pa_nil)))))))) (pss_one (ps_ret pe_bl)) pss_nil))) (pss_one (ps_ret pe_bl))), ?_⟩
    refine ⟨_, rfl, a, N, rfl, hN, hl, fun H1 p s1 hpn ⟨ys, hp, hys⟩ => ?_⟩
    refine ⟨p, rfl, ⟨_, SqL.of hp⟩, for_list (K := K) (xs := ys) (fun i σ H2 => (∃ v, σ = [some (.ref a), some (.ref st), some (.ref tt), v]) ∧ Same H1 H2 ∧ ((KM.allS rle N).take i).all (fun c => !(KM.forced L' c) || KM.forced L c) = true)
      ⟨⟨none, rfl⟩, Same.refl _, rfl⟩ (fun i σ H2 _ z => SqL.of (z.2.1 _ _ hp)) ?_ ?_⟩
    · rintro i y σ H2 hi ⟨⟨v, rfl⟩, z, ha⟩
      obtain ⟨c, hc, hy⟩ := hys.get hi
      refine ⟨_, rfl, _, rfl, tt, L', y, c, rfl, (hL'.mono s1).mono z, hy.mono z, hLf', fun H3 s3 => ⟨_, rfl, ?_⟩⟩
      cases hx' : KM.forced L' c with
      | false =>
        refine ⟨⟨_, rfl⟩, Same.trans z s3, ?_⟩
        rw [take_snoc hc, List.all_append, ha]
        simp [hx']
      | true =>
        refine iteT ⟨_, rfl, _, rfl, st, L, y, c, rfl, ((hL.mono s1).mono z).mono s3, (hy.mono z).mono s3, hLf, fun H4 s4 => ⟨_, rfl, ?_⟩⟩
        cases hx : KM.forced L c with
        | true =>
          refine ⟨⟨_, rfl⟩, Same.trans z (Same.trans s3 s4), ?_⟩
          rw [take_snoc hc, List.all_append, ha]
          simp [hx, hx']
        | false =>
          have h1 := q _ (Same.trans s1 (Same.trans z (Same.trans s3 s4)))
          have e : (KM.allS rle N).all (fun c => !(KM.forced L' c) || KM.forced L c) = false := by
            rw [Bool.eq_false_iff]
            intro h
            rw [List.all_eq_true] at h
            have := h c (List.mem_of_getElem? hc)
            rw [hx, hx'] at this
            cases this
          rw [e] at h1
          exact h1
    · rintro σ H2 ⟨⟨v, rfl⟩, z, ha⟩
      rw [hys.len, List.take_length] at ha
      have h1 := q _ (Same.trans s1 z)
      rw [ha] at h1
      exact h1
end
end L2.K25

namespace L2.K25
open PySem PySem.Spec PyProof.Rows
/-! _law_families, _law_spots -/
/-- what is kept is changed -/
theorem StAt.set {H0 H : Hp} {st p : Addr} {m : Nat} {o u : HO} (h : StAt H0 H st m) (e : H0 p = some u) : StAt (upd H0 p o) (upd H p o) st m := by
  obtain ⟨s0, b, cl, bigs, cells, n, h1, h2, h3, h4, h5, h6, h7, h8, h9, h10⟩ := h
  have n1 : st ≠ p := fun z => by rw [← z, h5] at e; cases e
  have n2 : b ≠ p := fun z => by rw [← z, h6] at e; cases e
  have n3 : cl ≠ p := fun z => by rw [← z, h7] at e; cases e
  refine ⟨fun a v e' => ?_, b, cl, bigs, cells, n, by rw [upd_ne n1]; exact h1, by rw [upd_ne n2]; exact h2, by rw [upd_ne n3]; exact h3, h4, by rw [upd_ne n1]; exact h5, by rw [upd_ne n2]; exact h6, by rw [upd_ne n3]; exact h7, h8, h9, h10⟩
  by_cases q : a = p
  · subst q
    rw [upd_same] at e' ⊢
    exact e'
  · rw [upd_ne q] at e' ⊢
    exact s0 a v e'
theorem StAt.new {H0 H : Hp} {st p : Addr} {m : Nat} {o : HO} (h : StAt H0 H st m) (hp : H p = none) : StAt (upd H0 p o) (upd H p o) st m := (h.add hp).1
theorem StAt.newS {H0 H : Hp} {st p : Addr} {m : Nat} {o : HO} (h : StAt H0 H st m) (hp : H p = none) : Same H0 (upd H0 p o) := (h.add (o := o) hp).2
/-- x stays when p, which is no more than new since, changes -/
theorem same_set {H0 H1 : Hp} {p : Addr} {o : HO} (s : Same H0 H1) (hn : H0 p = none) : Same H0 (upd H1 p o) := Same.upd_after s hn
def spFam : Sp := fun vs H Q _ => ∃ st a N count m H0, vs = [.ref st, .ref a, .int count] ∧ StAt H0 H st m ∧ m ≤ 100000 ∧ LNm H0 a N ∧ 1 ≤ N.length ∧ N.length ≤ 6 ∧ 1 ≤ count ∧ count ≤ 6 ∧
  ∀ H' H0' q F, StAt H0' H' st (m + 100) → Same H0 H0' → LsA H0' q F → (F.length : Int) = count → (∀ c ∈ F, c.Sublist N ∧ c ≠ []) → Q (.ref q) H'
def spSpots : Sp := fun vs H Q _ => ∃ st count m H0, vs = [.ref st, .int count] ∧ StAt H0 H st m ∧ m ≤ 100000 ∧ 1 ≤ count ∧ count ≤ 64 ∧
  ∀ H' H0' q (ks : List Int), StAt H0' H' st (m + 100) → Same H0 H0' → H0' q = some (.lst (ks.map V.int)) → (∀ k ∈ ks, 0 ≤ k ∧ k < count) → Q (.ref q) H'
theorem cut_one {c : List Str} {s : Nat} {x : Str} (h : c[s]? = some x) : cutV (c.map V.str) (some (s : Int)) (some ((s : Int) + 1)) = [V.str x] := by
  have hs := (List.getElem?_eq_some_iff.mp h).1
  have e1 : HT.sIx (c.map V.str).length 0 (some (s : Int)) = s := by rw [HT.sIx_nat, List.length_map]; omega
  have e2 : HT.sIx (c.map V.str).length (c.map V.str).length (some ((s : Int) + 1)) = s + 1 := by
    rw [show ((s : Int) + 1) = ((s + 1 : Nat) : Int) by omega, HT.sIx_nat, List.length_map]
    omega
  unfold cutV
  rw [e1, e2, show s + 1 - s = 1 by omega]
  have : (c.map V.str).drop s = V.str x :: (c.map V.str).drop (s + 1) := by
    rw [List.drop_eq_getElem_cons (by rw [List.length_map]; exact hs)]
    congr 1
    rw [List.getElem_map]
    congr 1
    exact (List.getElem?_eq_some_iff.mp h).2
  rw [this]
  rfl
theorem sub_take {N c : List Str} {j : Nat} {x : Str} (h : c.Sublist (N.take j)) (hx : N[j]? = some x) : (c ++ [x]).Sublist (N.take (j + 1)) := by
  rw [take_snoc hx]
  exact h.append (List.Sublist.refl _)
theorem sub_take' {N c : List Str} {j : Nat} {x : Str} (h : c.Sublist (N.take j)) (hx : N[j]? = some x) : c.Sublist (N.take (j + 1)) := by
  rw [take_snoc hx]
  exact h.trans (List.sublist_append_left _ _)
section
variable {P : Program} {w : World} {K : PySem.W.Frag} {mg : Str → Option Value} {base : Heap} {f : Addr} {fd : FuncData}
abbrev DFam (P w K mg base) := Df P w K mg base CX0 2 "_law_families" sLawFamilies ["_law_state", "_law_names_here", "_law_count"] spFam
abbrev DSpots (P w K mg base) := Df P w K mg base CX0 2 "_law_spots" sLawSpots ["_law_state", "_law_count"] spSpots
theorem scFam : FnScope ["_law_state", "_law_names_here", "_law_count", "_law_found", "_law_k", "_law_one", "_law_spot", "_law_label"] ["_law_state", "_law_names_here", "_law_count"] (defScope sLawFamilies) := ⟨rfl, rfl, rfl, by decide +kernel, rfl, by decide +kernel, by decide +kernel⟩
/-- the state of the walk: n sets found -/
def FamI (H0 : Hp) (st l0 : Addr) (m : Nat) (N : List Str) (i : Nat) (H : Hp) : Prop := ∃ H0' F vs, StAt H0' H st (m + i * 7) ∧ Same H0 H0' ∧ H0' l0 = some (.lst vs) ∧ TSs H0' vs F ∧ F.length = i ∧ ∀ c ∈ F, c.Sublist N ∧ c ≠ []
theorem ok_fam (F : Fun K "_law_families" "_law_families" sLawFamilies f fd) (T : Txt K mg) (G__law_draw : DDraw P w K mg base) : FnOk P w K mg base CX0 2 f fd ["_law_state", "_law_names_here", "_law_count"] spFam := by
  refine F.ok scFam (fun vs H Q E h => ?_) (fun cdv A outer s H vs Q E hr h => ?_)
  · obtain ⟨st, a, N, count, m, H0, rfl, _⟩ := h
    rfl
  · obtain ⟨st, a, N, count, m, H0, rfl, hS, hm, hN, hn1, hn6, hc1, hc6, q⟩ := h
    obtain ⟨n, rfl⟩ : ∃ n : Nat, count = (n : Int) := ⟨count.toNat, by omega⟩
    refine ⟨_, (pss_cons (ps_set (i := 3) scFam.nd rfl (Or.inl rfl) (pe_lst pa_nil)) (pss_cons (ps_for PassesOwn.never rfl (pi_range1 (by rfl) T.b_range (pa_cons (pv 2) pa_nil)) (pg_name (i := 4) scFam.nd rfl (Or.inl rfl)) (pss_cons (ps_set (i := 5) scFam.nd rfl (Or.inl rfl) (pe_callTy (call_tupleK K rfl) (by rfl) T.b_tuple (by decide +kernel) (pa_cons (pe_lc (own := [("_law_label", 7)]) (g := gName 7) rfl scFam.nd (pi_listK K rfl (pv 1)) (blkOk_by (own := [("_law_label", 7)]) (N := ["_law_state", "_law_names_here", "_law_count", "_law_found", "_law_k", "_law_one", "_law_spot", "_law_label"]) (sc := defScope sLawFamilies) (by decide +kernel)) (fun _ _ _ _ _ => pg_name (i := 7) scFam.nd rfl (Or.inl rfl)) (fun _ _ _ _ _ => pts_one (pt_cmpR op_eq (pe_call G__law_draw.ok (hr.mono (by decide)) rfl G__law_draw.m G__law_draw.kp G__law_draw.b .nil pass0 (pa_cons (pv 0) (pa_cons pe_int pa_nil))) pe_int (nomark _))) (fun _ _ _ _ _ => (pv 7))) pa_nil))) (pss_cons (ps_set (i := 6) scFam.nd rfl (Or.inl rfl) (pe_op op_mod (pv 4) (pe_callB (call_lenK K rfl) (by rfl) T.b_len (by decide +kernel) (pa_cons (pv 1) pa_nil)))) (pss_cons (ps_if (pt_cmpR (op_eqPK K rfl hr.units) (pv 5) (pe_tup pa_nil) (nomark _)) (pss_one (ps_set (i := 5) scFam.nd rfl (Or.inl rfl) (pe_callTy (call_tupleK K rfl) (by rfl) T.b_tuple (by decide +kernel) (pa_cons (pe_slice sl_list (pv 1) (po_some (pv 6)) (po_some (pe_op op_add (pv 6) pe_int))) pa_nil)))) pss_nil) (pss_one (ps_expr (pe_bmK K rfl PySem.F.plainAttrs_list PySem.F.slot_list_append PySem.F.type_list_append mt_append (pv 3) (pa_cons (pv 5) pa_nil)))))))) (pss_one (ps_ret (pv 3))))), ?_⟩
    refine ⟨Nat.zero_le _, fun l0 hl0 => ?_⟩
    have hl00 : H0 l0 = none := hS.1.free hl0
    refine ⟨_, rfl, n, rfl, by omega, by omega, for_range (n := n) (fun i σ H1 => (∃ v v' v'', σ = [some (.ref st), some (.ref a), some (.int n), some (.ref l0), v, v', v'', none]) ∧ FamI H0 st l0 m N i H1)
      ⟨⟨none, none, none, rfl⟩, _, [], [], hS.new hl0, hS.newS hl0, upd_same, .nil, rfl, fun c h => by cases h⟩ ?_ ?_⟩
    · rintro i σ H1 hi ⟨⟨v, v', v'', rfl⟩, H2, L, us, hS1, s2, hl2, hus, hL, hLs⟩
      have hN2 : LNm H2 a N := s2 _ _ hN
      refine ⟨_, rfl, a, rfl, ⟨_, SqL.of (hS1.1 _ _ hN2)⟩, fun D hD => ?_⟩
      refine lc_list (K := K) (xs := N.map V.str) (fun j H' => ∃ H3 c, StAt H3 H' st (m + i * 7 + j) ∧ Same H2 H3 ∧ H3 D = some (.lst (c.map V.str)) ∧ c.Sublist (N.take j)) ⟨_, [], hS1.new hD, hS1.newS hD, upd_same, by simp⟩ (fun j H' _ ⟨H3, c, h3, s3, _⟩ => SqL.of (h3.1 _ _ (s3 _ _ hN2))) ?_ ?_
      · rintro j x H' hj ⟨H3, c, h3, s3, hD3, hcs⟩
        obtain ⟨y, hy, rfl⟩ := map_at hj
        have hjN := (List.getElem?_eq_some_iff.mp hy).1
        refine ⟨rfl, _, rfl, st, 2, m + i * 7 + j, H3, rfl, by decide, by decide, by omega, h3, fun H4 d hd0 hd2 h4 => ⟨rfl, _, rfl, ?_⟩⟩
        have hcl := hcs.length_le
        rw [List.length_take] at hcl
        refine ite2 (fun _ => ?_) (fun _ => ?_)
        · refine ⟨_, rfl, c.map V.str, h4.1 _ _ hD3, ?_, _, c ++ [y], h4.set hD3, ?_, ?_, sub_take hcs hy⟩
          · rw [List.length_map]
            exact Nat.lt_of_le_of_lt (w4096 (n := 4095) (by omega) |> fun _ => (by omega : c.length ≤ 4095)) (by rw [sizeLine_eq]; omega)
          · exact Same.upd_after s3 (hS1.1.free hD)
          · rw [List.map_append]
            exact upd_same
        · exact ⟨H3, c, h4, s3, hD3, sub_take' hcs hy⟩
      · rintro H' ⟨H3, c, h3, s3, hD3, hcs⟩
        rw [List.length_map, List.take_length] at hcs
        rw [List.length_map] at h3
        have hD0 := h3.1 _ _ hD3
        refine ⟨D, _, rfl, .inl ⟨SqL.of hD0, fun p hp => ?_⟩⟩
        have h4 := h3.new (o := .tup (c.map V.str)) hp
        have s4 := Same.trans s3 (h3.newS (o := .tup (c.map V.str)) hp)
        have hp4 : upd H3 p (.tup (c.map V.str)) p = some (.tup (c.map V.str)) := upd_same
        generalize upd H3 p (.tup (c.map V.str)) = H4 at h4 s4 hp4 ⊢
        generalize upd H' p (.tup (c.map V.str)) = H5 at h4 ⊢
        have hN4 := s4 _ _ hN2
        have hlen : (0 : Int) < (((N.map V.str).length : Nat) : Int) := by rw [List.length_map]; omega
        refine ⟨_, rfl, _, rfl, a, _, rfl, .inl (SqL.of (h4.1 _ _ hN4)), _, _, rfl, rfl, hlen, ?_⟩
        refine ⟨_, rfl, Nat.zero_le _, fun e he => ?_⟩
        have h5 := h4.new (o := .tup []) he
        have s5 := h4.newS (o := .tup []) he
        have he5 : upd H5 e (.tup []) e = some (.tup []) := upd_same
        generalize upd H4 e (.tup []) = H6 at h5 s5 ⊢
        generalize upd H5 e (.tup []) = H7 at h5 he5 ⊢
        have hp6 := s5 _ _ hp4
        refine eqT (c := c) (d := []) ⟨p, rfl, h5.1 _ _ hp6⟩ ⟨e, rfl, he5⟩ ⟨_, rfl, ?_⟩
        have fin : ∀ (H8 H9 : Hp) (r : Addr) (c' : List Str), StAt H8 H9 st (m + i * 7 + N.length) → Same H2 H8 → H8 r = some (.tup (c'.map V.str)) → c'.Sublist N → c' ≠ [] →
            H9 l0 = some (.lst us) ∧ us.length < sizeLine ∧ FamI H0 st l0 m N (i + 1) (upd H9 l0 (.lst (us ++ [.ref r]))) := by
          intro H8 H9 r c' h8 s8 hr8 hcs' hcn'
          have e8 := s8 _ _ hl2
          refine ⟨h8.1 _ _ e8, ?_, _, L ++ [c'], us ++ [.ref r], (h8.set e8).more (by omega), Same.upd_after (Same.trans s2 s8) hl00, upd_same, TSs.snoc ((hus.mono s8).updL e8) (TS.updL e8 ⟨r, rfl, hr8⟩), by rw [List.length_append, hL]; rfl, fun c0 hc0 => ?_⟩
          · rw [hus.len, hL, sizeLine_eq]
            omega
          · rcases List.mem_append.mp hc0 with z | z
            · exact hLs c0 z
            · rw [List.mem_singleton.mp z]; exact ⟨hcs', hcn'⟩
        by_cases hce : c = []
        · rw [decide_eq_true hce]
          have hk : ((0 : Int) + (i : Nat)) % (((N.map V.str).length : Nat) : Int) = ((i % N.length : Nat) : Int) := by
            rw [List.length_map, Int.zero_add]
            rfl
          have hlt : i % N.length < N.length := Nat.mod_lt _ (by omega)
          obtain ⟨y, hy⟩ : ∃ y, N[i % N.length]? = some y := ⟨_, List.getElem?_eq_getElem hlt⟩
          refine iteT ⟨_, rfl, _, rfl, _, rfl, _, rfl, _, _, rfl, rfl, _, rfl, a, _, rfl, SqL.of (h5.1 _ _ (s5 _ _ hN4)), fun r hr1 => ?_⟩
          rw [hk, cut_one hy]
          have h6 := h5.new (o := .lst [.str y]) hr1
          have s6 := h5.newS (o := .lst [.str y]) hr1
          refine ⟨r, _, rfl, .inl ⟨SqL.of upd_same, fun r2 hr2 => ?_⟩⟩
          have h7 := h6.new (o := .tup [.str y]) hr2
          have s7 := h6.newS (o := .tup [.str y]) hr2
          obtain ⟨g1, g2, g3⟩ := fin _ _ r2 [y] h7 (Same.trans s4 (Same.trans s5 (Same.trans s6 s7))) upd_same (List.singleton_sublist.mpr (List.mem_of_getElem? hy)) (by simp)
          exact ⟨_, rfl, .inl ⟨rfl, _, SqL.of g1⟩, _, rfl, l0, us, _, rfl, rfl, g1, g2, ⟨_, _, _, rfl⟩, g3⟩
        · rw [decide_eq_false hce]
          obtain ⟨g1, g2, g3⟩ := fin _ _ p c h5 (Same.trans s4 s5) hp6 hcs hce
          exact ⟨_, rfl, .inl ⟨rfl, _, SqL.of g1⟩, _, rfl, l0, us, _, rfl, rfl, g1, g2, ⟨_, _, _, rfl⟩, g3⟩
    · rintro σ H1 ⟨⟨v, v', v'', rfl⟩, H2, L, us, hS1, s2, hl2, hus, hL, hLs⟩
      exact ⟨_, rfl, q H1 H2 l0 L (hS1.more (by omega)) s2 ⟨us, hl2, hus⟩ (by rw [hL]) hLs⟩

theorem scSpots : FnScope ["_law_state", "_law_count", "_law_left", "_law_k"] ["_law_state", "_law_count"] (defScope sLawSpots) := ⟨rfl, rfl, rfl, by decide +kernel, rfl, by decide +kernel, by decide +kernel⟩
theorem ok_spots (F : Fun K "_law_spots" "_law_spots" sLawSpots f fd) (T : Txt K mg) (G__law_draw : DDraw P w K mg base) : FnOk P w K mg base CX0 2 f fd ["_law_state", "_law_count"] spSpots := by
  refine F.ok scSpots (fun vs H Q E h => ?_) (fun cdv A outer s H vs Q E hr h => ?_)
  · obtain ⟨st, count, m, H0, rfl, _⟩ := h
    rfl
  · obtain ⟨st, count, m, H0, rfl, hS, hm, hc1, hc6, q⟩ := h
    obtain ⟨n, rfl⟩ : ∃ n : Nat, count = (n : Int) := ⟨count.toNat, by omega⟩
    refine ⟨_, (pss_cons (ps_set (i := 2) scSpots.nd rfl (Or.inr rfl) (pe_listRg rfl (by rfl) T.b_list (prg_1 (by rfl) T.b_range (pv 1)))) (pss_one (ps_ret (pe_lc (own := [("_law_k", 3)]) (g := gName 3) (tt := tYes) rfl scSpots.nd (pi_range1 (by rfl) T.b_range (pa_cons (pv 1) pa_nil)) (blkOk_by (own := [("_law_k", 3)]) (N := ["_law_state", "_law_count", "_law_left", "_law_k"]) (sc := defScope sLawSpots) (by decide +kernel)) (fun _ _ _ _ _ => pg_name (i := 3) scSpots.nd rfl (Or.inl rfl)) (fun _ _ _ _ _ => pts_nil) (fun _ _ _ _ _ => (pe_bmK K rfl PySem.F.plainAttrs_list PySem.F.slot_list_pop PySem.F.type_list_pop mt_popAt (pv 2) (pa_cons (pe_call G__law_draw.ok (hr.mono (by decide)) rfl G__law_draw.m G__law_draw.kp G__law_draw.b .nil pass0 (pa_cons (pv 0) (pa_cons (pe_callB (call_lenK K rfl) (by rfl) T.b_len (by decide +kernel) (pa_cons (pv 2) pa_nil)) pa_nil))) pa_nil))))))), ?_⟩
    have hc : (n : Int) ≤ 64 := hc6
    have hml : ∀ {ls : List Int} {x : Int} {k : Nat}, (∀ z ∈ ls, 0 ≤ z ∧ z < (n : Int)) → ls[k]? = some x → 0 ≤ x ∧ x < (n : Int) := fun {ls x k} h e => h x (List.mem_of_getElem? e)
    refine ⟨_, rfl, n, rfl, RgOk.of_le (by omega) (by omega) (by omega) (by omega), fun l hl => ?_⟩
    have el : rgV 0 (n : Int) = ((List.range n).map fun i => (0 : Int) + (i : Nat)).map V.int := by
      unfold rgV
      rw [List.map_map]
      rfl
    rw [el]
    have h1 := hS.new (o := .lst (((List.range n).map fun i => (0 : Int) + (i : Nat)).map V.int)) hl
    have s1 := hS.newS (o := .lst (((List.range n).map fun i => (0 : Int) + (i : Nat)).map V.int)) hl
    have hl0 := hS.1.free hl
    refine ⟨_, rfl, n, rfl, by omega, by omega, fun D hD => ?_⟩
    have hD0 := h1.1.free hD
    have hDH : H0 D = none := s1.free hD0
    have nDl : D ≠ l := fun e => by rw [e, upd_same] at hD0; cases hD0
    refine lc_range (n := n) (fun i H' => ∃ (H3 : Hp) (ls ks : List Int), StAt H3 H' st (m + i) ∧ Same H0 H3 ∧ H3 l = some (.lst (ls.map V.int)) ∧ H3 D = some (.lst (ks.map V.int)) ∧ ls.length + i = n ∧ ks.length = i ∧ (∀ z ∈ ls, 0 ≤ z ∧ z < (n : Int)) ∧ ∀ z ∈ ks, 0 ≤ z ∧ z < (n : Int))
      ⟨_, _, [], h1.new hD, Same.trans s1 (h1.newS hD), by rw [upd_ne nDl.symm]; exact upd_same, upd_same, by simp, rfl, fun z hz => ?_, fun z hz => by cases hz⟩ ?_ ?_
    · obtain ⟨k, hk, rfl⟩ := List.mem_map.mp hz
      have := List.mem_range.mp hk
      omega
    · rintro i H' hi ⟨H3, ls, ks, h3, s3, hl3, hD3, e1, e2, b1, b2⟩
      have hlen : ((ls.map V.int).length : Int) = (ls.length : Int) := by rw [List.length_map]
      refine ⟨rfl, _, rfl, .inl ⟨rfl, _, SqL.of (h3.1 _ _ hl3)⟩, _, rfl, _, rfl, l, _, rfl, .inl (SqL.of (h3.1 _ _ hl3)), st, (((ls.map V.int).length : Nat) : Int), m + i, H3, rfl, by rw [hlen]; omega, by rw [hlen]; omega, by omega, h3, fun H4 d hd0 hd1 h4 => ?_⟩
      obtain ⟨k, rfl⟩ : ∃ k : Nat, d = (k : Int) := ⟨d.toNat, by omega⟩
      have hk : k < ls.length := by omega
      obtain ⟨y, hy⟩ : ∃ y, ls[k]? = some y := ⟨_, List.getElem?_eq_getElem hk⟩
      refine ⟨l, _, (k : Int), k, .int y, rfl, rfl, h4.1 _ _ hl3, by omega, by omega, ?_, ?_, ?_⟩
      · rw [seqIndex_of (by omega) (by omega)]
        rfl
      · rw [List.getElem?_map, hy]
        rfl
      · rw [erase_mapI]
        have h5 := h4.set (o := .lst ((ls.eraseIdx k).map V.int)) hl3
        have hD5 : upd H3 l (.lst ((ls.eraseIdx k).map V.int)) D = some (.lst (ks.map V.int)) := by rw [upd_ne nDl]; exact hD3
        refine ⟨ks.map V.int, h5.1 _ _ hD5, ?_, _, ls.eraseIdx k, ks ++ [y], (h5.set hD5).more (by omega), Same.upd_after (Same.upd_after s3 hl0) hDH, ?_, ?_, ?_, ?_, fun z hz => b1 z (List.mem_of_mem_eraseIdx hz), fun z hz => ?_⟩
        · rw [List.length_map, sizeLine_eq]
          omega
        · rw [upd_ne nDl.symm]
          exact upd_same
        · rw [List.map_append]
          exact upd_same
        · rw [List.length_eraseIdx, if_pos hk]
          omega
        · rw [List.length_append, e2]
          rfl
        · rcases List.mem_append.mp hz with w | w
          · exact b2 z w
          · rw [List.mem_singleton.mp w]
            exact hml b1 hy
    · rintro H' ⟨H3, ls, ks, h3, s3, hl3, hD3, e1, e2, b1, b2⟩
      exact q H' H3 D ks (h3.more (by omega)) s3 hD3 b2
end
end L2.K25

namespace L2.K25
open PySem PySem.Spec PyProof.Rows
/-! the plain law of the law's names -/
def signs : Str := "abcdefghijklmnopqrstuvwxyz0123456789"
def vnL (l : List Nat) : Bool := decide (l.length ≤ 6) && (match l with | c :: _ => decide (c ∈ letters.cps.toList) | [] => false) && l.all fun c => decide (c ∈ letters.cps.toList) || decide (c ∈ digits.cps.toList)
theorem vn_of {x : Str} (h : vnL x.cps.toList = true) : VN x := by
  unfold vnL at h
  rw [Bool.and_eq_true, Bool.and_eq_true, decide_eq_true_eq, List.all_eq_true] at h
  obtain ⟨⟨h1, h2⟩, h3⟩ := h
  refine ⟨by rw [Array.length_toList] at h1; exact h1, ?_, fun c hc => ?_⟩
  · cases e : x.cps.toList with
    | nil => rw [e] at h2; cases h2
    | cons c r =>
      rw [e] at h2
      exact ⟨c, r, rfl, of_decide_eq_true h2⟩
  · have := h3 c hc
    simpa using this
structure NsGood (N : List Str) (n : Nat) : Prop where
  len : N.length = n
  nd : N.Nodup
  vn : ∀ x ∈ N, VN x
theorem lettersL : letters.cps.toList = (List.range 26).map (97 + ·) := by decide +kernel
theorem digitsL : digits.cps.toList = (List.range 10).map (48 + ·) := by decide +kernel
theorem signsL : signs.cps.toList = (List.range 26).map (97 + ·) ++ (List.range 10).map (48 + ·) := by decide +kernel
theorem mem_letters {c : Nat} : c ∈ letters.cps.toList ↔ 97 ≤ c ∧ c < 123 := by
  rw [lettersL, List.mem_map]
  constructor
  · rintro ⟨k, hk, rfl⟩
    have := List.mem_range.mp hk
    omega
  · rintro ⟨h1, h2⟩
    exact ⟨c - 97, List.mem_range.mpr (by omega), by omega⟩
theorem mem_digits {c : Nat} : c ∈ digits.cps.toList ↔ 48 ≤ c ∧ c < 58 := by
  rw [digitsL, List.mem_map]
  constructor
  · rintro ⟨k, hk, rfl⟩
    have := List.mem_range.mp hk
    omega
  · rintro ⟨h1, h2⟩
    exact ⟨c - 48, List.mem_range.mpr (by omega), by omega⟩
/-- a sign: a letter or a digit -/
def Sg (c : Nat) : Prop := c ∈ letters.cps.toList ∨ c ∈ digits.cps.toList
theorem sign_at {d : Int} (h0 : 0 ≤ d) (h1 : d < 36) : ∃ c, atI signs.cps.toList d = some c ∧ Sg c ∧ (d < 26 → c = 97 + d.toNat) := by
  obtain ⟨k, rfl⟩ : ∃ k : Nat, d = (k : Int) := ⟨d.toNat, by omega⟩
  have hk : k < 36 := by omega
  refine ⟨if k < 26 then 97 + k else 48 + (k - 26), atI_nat ?_, ?_, fun h => ?_⟩
  · rw [signsL]
    by_cases h : k < 26
    · rw [if_pos h, List.getElem?_append_left (by simpa using h), List.getElem?_map, List.getElem?_range h]
      rfl
    · rw [if_neg h, List.getElem?_append_right (by simp; omega), List.getElem?_map, List.length_map, List.length_range, List.getElem?_range (by omega)]
      rfl
  · unfold Sg
    rw [mem_letters, mem_digits]
    by_cases h : k < 26
    · rw [if_pos h]; omega
    · rw [if_neg h]; omega
  · have : k < 26 := by omega
    rw [if_pos this]
    rfl
theorem ch_list (c : Nat) : (⟨#[c]⟩ : Str).cps.toList = [c] := rfl
theorem app_list (a b : Str) : (a ++ b).cps.toList = a.cps.toList ++ b.cps.toList := by
  show (a.cps ++ b.cps).toList = _
  rw [Array.toList_append]
theorem vn_list {x : Str} {l : List Nat} (e : x.cps.toList = l) (hl : l.length ≤ 6) {c : Nat} {r : List Nat} (hc : l = c :: r) (h1 : 97 ≤ c ∧ c < 123) (h2 : ∀ y ∈ l, Sg y) : VN x := by
  refine ⟨by rw [← e, Array.length_toList] at hl; exact hl, ⟨c, r, by rw [e, hc], mem_letters.mpr h1⟩, fun y hy => h2 y (by rw [← e]; exact hy)⟩
theorem good_map {n : Nat} {f : Nat → Str} (hi : ∀ j k, j < k → k < n → f j ≠ f k) (hv : ∀ k, k < n → VN (f k)) : NsGood ((List.range n).map f) n where
  len := by simp
  nd := by
    rw [List.nodup_iff_pairwise_ne, List.pairwise_map]
    refine List.pairwise_iff_getElem.mpr fun i j h1 h2 hij => ?_
    rw [List.getElem_range, List.getElem_range]
    exact hi i j hij (by simpa using h2)
  vn := fun x hx => by
    obtain ⟨k, hk, rfl⟩ := List.mem_map.mp hx
    exact hv k (List.mem_range.mp hk)
/-- plan 6 -/
def six : List Str := ["rows", "leaf", "x", "x1", "x10", "none"]
theorem six_ok : six.Nodup ∧ six.all (fun x => vnL x.cps.toList) = true := by decide +kernel
theorem good_six {n : Nat} (h : n ≤ 6) : NsGood (six.take n) n where
  len := by
    rw [List.length_take, show six.length = 6 from rfl]
    omega
  nd := six_ok.1.sublist (List.take_sublist _ _)
  vn := fun x hx => vn_of (List.all_eq_true.mp six_ok.2 x (List.mem_of_mem_take hx))
/-- plan 4: a letter and a number -/
def numS (k : Nat) : Str := toString (k : Int)
theorem num_ok : ((List.range 64).map numS).Nodup ∧ (List.range 64).all (fun k => decide ((numS k).cps.toList.length ≤ 2) && (numS k).cps.toList.all fun c => decide (c ∈ digits.cps.toList)) = true := by decide +kernel
theorem num_ne {j k : Nat} (h : j < k) (hk : k < 64) : numS j ≠ numS k := fun e => by
  have h1 := List.nodup_iff_pairwise_ne.mp num_ok.1
  rw [List.pairwise_map] at h1
  have h2 := List.pairwise_iff_getElem.mp h1 j k (by simp; omega) (by simpa using hk) h
  rw [List.getElem_range, List.getElem_range] at h2
  exact h2 e
theorem num_sg {k : Nat} (hk : k < 64) : (numS k).cps.toList.length ≤ 2 ∧ ∀ c ∈ (numS k).cps.toList, Sg c := by
  have := List.all_eq_true.mp num_ok.2 k (List.mem_range.mpr hk)
  rw [Bool.and_eq_true, decide_eq_true_eq, List.all_eq_true] at this
  exact ⟨this.1, fun c hc => .inr (of_decide_eq_true (this.2 c hc))⟩
theorem good_num {n : Nat} (hn : n ≤ 6) {c : Nat} (hc : 97 ≤ c ∧ c < 123) {s : Nat} (h1 : 1 ≤ s) (h9 : s ≤ 9) : NsGood ((List.range n).map fun k => (⟨#[c]⟩ : Str) ++ numS (s * (k + 1))) n := by
  refine good_map (fun j k hjk hk e => ?_) fun k hk => ?_
  · have e2 := congrArg (fun x : Str => x.cps.toList) e
    simp only [app_list, ch_list, List.singleton_append, List.cons.injEq, true_and] at e2
    have e3 : numS (s * (j + 1)) = numS (s * (k + 1)) := str_of e2
    have hlt : s * (j + 1) < s * (k + 1) := Nat.mul_lt_mul_of_pos_left (by omega) (by omega)
    have hb : s * (k + 1) ≤ 9 * 6 := Nat.mul_le_mul h9 (by omega)
    exact num_ne hlt (by omega) e3
  · have hb : s * (k + 1) ≤ 9 * 6 := Nat.mul_le_mul h9 (by omega)
    obtain ⟨hl, hs⟩ := num_sg (k := s * (k + 1)) (by omega)
    refine vn_list (app_list _ _) ?_ rfl hc fun y hy => ?_
    · rw [ch_list, List.length_append]
      show 1 + _ ≤ 6
      omega
    · rcases List.mem_append.mp hy with z | z
      · rw [ch_list, List.mem_singleton] at z
        rw [z]
        exact .inl (mem_letters.mpr hc)
      · exact hs y z
/-- plan 5: prefixes -/
theorem good_pre {n : Nat} (hn : n ≤ 6) {c : Nat} (hc : 97 ≤ c ∧ c < 123) {r : List Nat} (hr : r.length = 5) (hs : ∀ y ∈ r, Sg y) {f : Nat → Str} (hf : ∀ k, k < n → (f k).cps.toList = (c :: r).take (k + 1)) : NsGood ((List.range n).map f) n := by
  refine good_map (fun j k hjk hk e => ?_) fun k hk => ?_
  · have e2 := congrArg (fun x : Str => x.cps.toList.length) e
    simp only [hf j (by omega), hf k hk, List.length_take, List.length_cons, hr] at e2
    omega
  · refine vn_list (hf k hk) ?_ (List.take_succ_cons) hc fun y hy => ?_
    · rw [List.length_take]
      simp only [List.length_cons, hr]
      omega
    · rcases List.mem_cons.mp (List.mem_of_mem_take hy) with z | z
      · rw [z]
        exact .inl (mem_letters.mpr hc)
      · exact hs y z
/-- plans 0 to 3: the k-th sign -/
def sgk (o s : Nat) (k : Nat) : Nat := 97 + (o + s * k) % 26
theorem sgk_in (o s k : Nat) : 97 ≤ sgk o s k ∧ sgk o s k < 123 := by
  unfold sgk
  omega
theorem sgk_ne {o s j k : Nat} (hs : s = 1 ∨ s = 3 ∨ s = 5 ∨ s = 7 ∨ s = 9 ∨ s = 11) (h : j < k) (hk : k < 6) : sgk o s j ≠ sgk o s k := by
  unfold sgk
  rcases hs with rfl | rfl | rfl | rfl | rfl | rfl <;> omega
theorem good_words {n : Nat} (hn : n ≤ 6) {c : Nat} (hc : 97 ≤ c ∧ c < 123) {o s : Nat} (hs : s = 1 ∨ s = 3 ∨ s = 5 ∨ s = 7 ∨ s = 9 ∨ s = 11) {b : Nat → List Nat} (hb : ∀ k, (b k).length ≤ 4 ∧ ∀ y ∈ b k, Sg y) {f : Nat → Str} (fr : Bool)
    (hf : ∀ k, k < n → (f k).cps.toList = if fr then sgk o s k :: b k else c :: (b k ++ [sgk o s k])) : NsGood ((List.range n).map f) n := by
  refine good_map (fun j k hjk hk e => ?_) fun k hk => ?_
  · have e2 := congrArg (fun x : Str => x.cps.toList) e
    simp only [hf j (by omega), hf k hk] at e2
    have ne := sgk_ne (o := o) hs hjk (by omega)
    cases fr with
    | true =>
      simp only [if_true] at e2
      exact ne (List.cons.inj e2).1
    | false =>
      simp only [Bool.false_eq_true, if_false] at e2
      have e3 := (List.cons.inj e2).2
      have e4 := congrArg List.getLast? e3
      simp only [List.getLast?_append, List.getLast?_singleton, Option.some_or] at e4
      exact ne (Option.some.inj e4)
  · obtain ⟨hl, hy⟩ := hb k
    have hg := sgk_in o s k
    cases fr with
    | true =>
      refine vn_list (hf k hk) (by simp; omega) rfl hg fun y h => ?_
      rcases List.mem_cons.mp h with z | z
      · rw [z]; exact .inl (mem_letters.mpr hg)
      · exact hy y z
    | false =>
      refine vn_list (hf k hk) (by simp; omega) rfl hc fun y h => ?_
      rcases List.mem_cons.mp h with z | z
      · rw [z]; exact .inl (mem_letters.mpr hc)
      · rcases List.mem_append.mp z with z | z
        · exact hy y z
        · rw [List.mem_singleton.mp z]; exact .inl (mem_letters.mpr hg)
end L2.K25

namespace L2.K25
open PySem PySem.Spec PyProof.Rows
/-! _law_names -/
def chs (cs : List Nat) : List Str := cs.map fun c => ⟨#[c]⟩
theorem join_chs : ∀ cs : List Nat, (Str.join ("" : Str) (chs cs)).cps.toList = cs
  | [] => rfl
  | [c] => rfl
  | c :: d :: r => by
    have ih := join_chs (d :: r)
    show ((⟨#[c]⟩ : Str) ++ ("" : Str) ++ Str.join ("" : Str) (chs (d :: r))).cps.toList = _
    rw [app_list, app_list, ih]
    rfl
theorem chs_sum (cs : List Nat) : ((chs cs).map (·.length)).sum = cs.length := by
  induction cs with
  | nil => rfl
  | cons c r ih =>
    show (1 : Nat) + ((chs r).map (·.length)).sum = r.length + 1
    rw [ih]
    omega
/-- a row of drawn signs -/
theorem signs_lc {σ : L2.St} {st D : Addr} {m n : Nat} {H1 H2 : Hp} {Qd : Hp → Prop} {vs : List Nat} {gi : Nat} (hS : StAt H2 H1 st m) (hD : H1 D = none) (hn : n ≤ 8) (hm : m ≤ 100100)
    (h0 : ∀ x, ((wipe σ vs).set gi (some x))[0]? = some (some (V.ref st))) (h2 : ∀ x, ((wipe σ vs).set gi (some x))[2]? = some (some (V.str signs))) (hw : ∀ x, wipe ((wipe σ vs).set gi (some x)) vs = wipe σ vs)
    (fin : ∀ H' H3 (cs : List Nat), StAt H3 H' st (m + n) → Same H2 H3 → H3 D = some (.lst ((chs cs).map V.str)) → cs.length = n → (∀ c ∈ cs, Sg c) → Qd H') :
    ∃ W : Nat → Nat → Hp → Prop, (∃ m, W 0 m (upd H1 D (.lst []))) ∧ ∀ i m H, W i m H →
      ((Itr 0 n).stop i H ∧ Qd H) ∨ ((Itr 0 n).go i H ∧ ∃ Nx : Hp → Prop, (∀ H', Nx H' → ∃ m', m' < m ∧ W (i + 1) m' H') ∧ ∀ x H', (Itr 0 n).yld i H x H' → gName gi x (wipe σ vs) H' fun σ2 H2 => wipe σ2 vs = wipe σ vs ∧ tYes σ2 H2 fun b H3 =>
        if b = true then (tOp rIxS (tVar 2) (tCall spDraw [] E0 (tCons (tVar 0) (tCons (tC (.int 36)) tNil)))) σ2 H3 fun y H4 => ∃ acc, H4 D = some (.lst acc) ∧ acc.length < sizeLine ∧ Nx (upd H4 D (.lst (acc ++ [y]))) else Nx H3) := by
  have hD2 := hS.1.free hD
  refine lc_range (n := n) (fun i H' => ∃ (H3 : Hp) (cs : List Nat), StAt H3 H' st (m + i) ∧ Same H2 H3 ∧ H3 D = some (.lst ((chs cs).map V.str)) ∧ cs.length = i ∧ ∀ c ∈ cs, Sg c)
    ⟨_, [], hS.new hD, hS.newS hD, upd_same, rfl, fun c h => by cases h⟩ ?_ ?_
  · rintro i H' hi ⟨H3, cs, h3, s3, hD3, hl, hs⟩
    refine ⟨hw _, _, h2 _, _, h0 _, st, 36, m + i, H3, rfl, by decide, by decide, by omega, h3, fun H4 d hd0 hd1 h4 => ?_⟩
    obtain ⟨c, hc, hsg, _⟩ := sign_at hd0 hd1
    refine ⟨signs, d, c, rfl, rfl, w64 (by decide), hc, _, h4.1 _ _ hD3, ?_, _, cs ++ [c], h4.set hD3, Same.upd_after s3 hD2, ?_, by rw [List.length_append, hl]; rfl, fun x hx => ?_⟩
    · rw [List.length_map, chs, List.length_map, sizeLine_eq]
      omega
    · rw [upd_same]
      unfold chs
      rw [List.map_append, List.map_append]
      rfl
    · rcases List.mem_append.mp hx with z | z
      · exact hs x z
      · rw [List.mem_singleton.mp z]; exact hsg
  · rintro H' ⟨H3, cs, h3, s3, hD3, hl, hs⟩
    exact fin H' H3 cs h3 s3 hD3 hl hs
def spNames : Sp := fun vs H Q _ => ∃ st count m H0, vs = [.ref st, .int count] ∧ StAt H0 H st m ∧ m ≤ 100000 ∧ 1 ≤ count ∧ count ≤ 6 ∧
  ∀ H' H0' q N, StAt H0' H' st (m + 100) → Same H0 H0' → LNm H0' q N → NsGood N count.toNat → Q (.ref q) H'
section
variable {P : Program} {w : World} {K : PySem.W.Frag} {mg : Str → Option Value} {base : Heap} {f : Addr} {fd : FuncData}
abbrev DNames (P w K mg base) := Df P w K mg base CX0 2 "_law_names" sLawNames ["_law_state", "_law_count"] spNames
theorem scNames : FnScope ["_law_state", "_law_count", "_law_signs", "_law_stem", "_law_letter", "_law_offset", "_law_stride", "_law_plan", "_law_step", "_law_whole", "_law_words", "_law_k", "_law_sign", "_law_back"] ["_law_state", "_law_count"] (defScope sLawNames) := ⟨rfl, rfl, rfl, by decide +kernel, rfl, by decide +kernel, by decide +kernel⟩
theorem ok_names (F : Fun K "_law_names" "_law_names" sLawNames f fd) (T : Txt K mg) (G__law_draw : DDraw P w K mg base) : FnOk P w K mg base CX0 2 f fd ["_law_state", "_law_count"] spNames := by
  refine F.ok scNames (fun vs H Q E h => ?_) (fun cdv A outer s H vs Q E hr h => ?_)
  · obtain ⟨st, count, m, H0, rfl, _⟩ := h
    rfl
  · obtain ⟨st, count, m, H0, rfl, hS, hm, hc1, hc6, q⟩ := h
    obtain ⟨n, rfl⟩ : ∃ n : Nat, count = (n : Int) := ⟨count.toNat, by omega⟩
    have hn6 : n ≤ 6 := by omega
    replace q : ∀ H' H0' q N, StAt H0' H' st (m + 100) → Same H0 H0' → LNm H0' q N → NsGood N n → Q (.ref q) H' := q
    refine ⟨_, (pss_cons (ps_set (i := 2) scNames.nd rfl (Or.inr rfl) pe_str) (pss_cons (ps_set (i := 3) scNames.nd rfl (Or.inl rfl) (pe_join pe_str (pe_lc (own := [("_law_k", 11)]) (g := gName 11) (tt := tYes) rfl scNames.nd (pi_range1 (by rfl) T.b_range (pa_cons (pe_call G__law_draw.ok (hr.mono (by decide)) rfl G__law_draw.m G__law_draw.kp G__law_draw.b .nil pass0 (pa_cons (pv 0) (pa_cons pe_int pa_nil))) pa_nil)) (blkOk_by (own := [("_law_k", 11)]) (N := ["_law_state", "_law_count", "_law_signs", "_law_stem", "_law_letter", "_law_offset", "_law_stride", "_law_plan", "_law_step", "_law_whole", "_law_words", "_law_k", "_law_sign", "_law_back"]) (sc := defScope sLawNames) (by decide +kernel)) (fun _ _ _ _ _ => pg_name (i := 11) scNames.nd rfl (Or.inl rfl)) (fun _ _ _ _ _ => pts_nil) (fun _ _ _ _ _ => (pe_ix ix_str (pv 2) (pe_call G__law_draw.ok (hr.mono (by decide)) rfl G__law_draw.m G__law_draw.kp G__law_draw.b .nil pass0 (pa_cons (pv 0) (pa_cons pe_int pa_nil))) (fun _ _ => rfl)))))) (pss_cons (ps_set (i := 4) scNames.nd rfl (Or.inr rfl) (pe_ix ix_str (pv 2) (pe_call G__law_draw.ok (hr.mono (by decide)) rfl G__law_draw.m G__law_draw.kp G__law_draw.b .nil pass0 (pa_cons (pv 0) (pa_cons pe_int pa_nil))) (fun _ _ => rfl))) (pss_cons (ps_set (i := 5) scNames.nd rfl (Or.inl rfl) (pe_call G__law_draw.ok (hr.mono (by decide)) rfl G__law_draw.m G__law_draw.kp G__law_draw.b .nil pass0 (pa_cons (pv 0) (pa_cons pe_int pa_nil)))) (pss_cons (ps_set (i := 6) scNames.nd rfl (Or.inl rfl) (pe_ix (ix_listK K rfl) (pe_lst (pa_cons pe_int (pa_cons pe_int (pa_cons pe_int (pa_cons pe_int (pa_cons pe_int (pa_cons pe_int pa_nil))))))) (pe_call G__law_draw.ok (hr.mono (by decide)) rfl G__law_draw.m G__law_draw.kp G__law_draw.b .nil pass0 (pa_cons (pv 0) (pa_cons pe_int pa_nil))) (fun _ _ => rfl))) (pss_cons (ps_set (i := 7) scNames.nd rfl (Or.inl rfl) (pe_call G__law_draw.ok (hr.mono (by decide)) rfl G__law_draw.m G__law_draw.kp G__law_draw.b .nil pass0 (pa_cons (pv 0) (pa_cons pe_int pa_nil)))) (pss_cons (ps_if (PW.pt (pw_and (pt_cmpR op_eq (pv 7) pe_int (nomark _)) (pw_and1 (pt_cmpR op_lt (pv 1) pe_int (nomark _))))) (pss_one (ps_ret (pe_slice sl_list (pe_lst (pa_cons pe_str (pa_cons pe_str (pa_cons pe_str (pa_cons pe_str (pa_cons pe_str (pa_cons pe_str pa_nil))))))) po_none (po_some (pv 1))))) pss_nil) (pss_cons (ps_if (PW.pt (pw_or (pt_cmpR op_eq (pv 7) pe_int (nomark _)) (pw_or1 (PW.pt (pw_and (pt_cmpR op_eq (pv 7) pe_int (nomark _)) (pw_and1 (pt_cmpR op_gt (pv 1) pe_int (nomark _)))))))) (pss_cons (ps_set (i := 8) scNames.nd rfl (Or.inr rfl) (pe_op op_add pe_int (pe_call G__law_draw.ok (hr.mono (by decide)) rfl G__law_draw.m G__law_draw.kp G__law_draw.b .nil pass0 (pa_cons (pv 0) (pa_cons pe_int pa_nil))))) (pss_one (ps_ret (pe_lc (own := [("_law_k", 11)]) (g := gName 11) (tt := tYes) rfl scNames.nd (pi_range1 (by rfl) T.b_range (pa_cons (pv 1) pa_nil)) (blkOk_by (own := [("_law_k", 11)]) (N := ["_law_state", "_law_count", "_law_signs", "_law_stem", "_law_letter", "_law_offset", "_law_stride", "_law_plan", "_law_step", "_law_whole", "_law_words", "_law_k", "_law_sign", "_law_back"]) (sc := defScope sLawNames) (by decide +kernel)) (fun _ _ _ _ _ => pg_name (i := 11) scNames.nd rfl (Or.inl rfl)) (fun _ _ _ _ _ => pts_nil) (fun _ _ _ _ _ => (pe_op op_add_str (pv 4) (pe_callTy call_str_int (by rfl) T.b_str (by decide +kernel) (pa_cons (pe_op op_mul (pv 8) (pe_op op_add (pv 11) pe_int)) pa_nil)))))))) pss_nil) (pss_cons (ps_if (pt_cmpR op_eq (pv 7) pe_int (nomark _)) (pss_cons (ps_set (i := 9) scNames.nd rfl (Or.inr rfl) (pe_op op_add_str (pv 4) (pe_join pe_str (pe_lc (own := [("_law_k", 11)]) (g := gName 11) (tt := tYes) rfl scNames.nd (pi_range1 (by rfl) T.b_range (pa_cons pe_int pa_nil)) (blkOk_by (own := [("_law_k", 11)]) (N := ["_law_state", "_law_count", "_law_signs", "_law_stem", "_law_letter", "_law_offset", "_law_stride", "_law_plan", "_law_step", "_law_whole", "_law_words", "_law_k", "_law_sign", "_law_back"]) (sc := defScope sLawNames) (by decide +kernel)) (fun _ _ _ _ _ => pg_name (i := 11) scNames.nd rfl (Or.inl rfl)) (fun _ _ _ _ _ => pts_nil) (fun _ _ _ _ _ => (pe_ix ix_str (pv 2) (pe_call G__law_draw.ok (hr.mono (by decide)) rfl G__law_draw.m G__law_draw.kp G__law_draw.b .nil pass0 (pa_cons (pv 0) (pa_cons pe_int pa_nil))) (fun _ _ => rfl))))))) (pss_one (ps_ret (pe_lc (own := [("_law_k", 11)]) (g := gName 11) (tt := tYes) rfl scNames.nd (pi_range1 (by rfl) T.b_range (pa_cons (pv 1) pa_nil)) (blkOk_by (own := [("_law_k", 11)]) (N := ["_law_state", "_law_count", "_law_signs", "_law_stem", "_law_letter", "_law_offset", "_law_stride", "_law_plan", "_law_step", "_law_whole", "_law_words", "_law_k", "_law_sign", "_law_back"]) (sc := defScope sLawNames) (by decide +kernel)) (fun _ _ _ _ _ => pg_name (i := 11) scNames.nd rfl (Or.inl rfl)) (fun _ _ _ _ _ => pts_nil) (fun _ _ _ _ _ => (pe_slice sl_str (pv 9) po_none (po_some (pe_op op_add (pv 11) pe_int)))))))) pss_nil) (pss_cons (ps_set (i := 10) scNames.nd rfl (Or.inl rfl) (pe_lst pa_nil)) (pss_cons (ps_for PassesOwn.never rfl (pi_range1 (by rfl) T.b_range (pa_cons (pv 1) pa_nil)) (pg_name (i := 11) scNames.nd rfl (Or.inl rfl)) (pss_cons (ps_set (i := 12) scNames.nd rfl (Or.inl rfl) (pe_ix ix_str (pv 2) (pe_op op_mod (pe_callTy call_int1 (by rfl) T.b_int (by decide +kernel) (pa_cons (pe_op op_add (pv 5) (pe_op op_mul (pv 6) (pv 11))) pa_nil)) pe_int) (fun _ _ => rfl))) (pss_cons (ps_set (i := 13) scNames.nd rfl (Or.inl rfl) (pe_ix (ix_listK K rfl) (pe_lst (pa_cons (pv 3) (pa_cons pe_str pa_nil))) (pe_callTy call_int1 (by rfl) T.b_int (by decide +kernel) (pa_cons (pe_and (pe_cmpR op_gt (pv 7) pe_int (nomark _)) (pe_one (pe_cmpR op_eq (pe_op op_mod (pv 11) pe_int) pe_int (nomark _)))) pa_nil)) (fun _ _ => rfl))) (pss_one (ps_expr (pe_bmK K rfl PySem.F.plainAttrs_list PySem.F.slot_list_append PySem.F.type_list_append mt_append (pv 10) (pa_cons (pe_ix (ix_listK K rfl) (pe_lst (pa_cons (pe_op op_add_str (pe_op op_add_str (pv 4) (pv 13)) (pv 12)) (pa_cons (pe_op op_add_str (pv 12) (pv 13)) pa_nil))) (pe_op op_mod (pe_callTy call_int1 (by rfl) T.b_int (by decide +kernel) (pa_cons (pv 7) pa_nil)) pe_int) (fun _ _ => rfl)) pa_nil))))))) (pss_one (ps_ret (pv 10)))))))))))))), ?_⟩
    -- stem
    refine ⟨⟨_, rfl⟩, _, rfl, st, 5, m, H0, rfl, by decide, by decide, by omega, hS, fun H1 d hd0 hd1 h1 => ⟨d, rfl, by omega, by omega, fun D hD => ?_⟩⟩
    refine signs_lc (n := d.toNat) h1 hD (by omega) (by omega) (fun _ => rfl) (fun _ => rfl) (fun _ => rfl) fun H2 H3 stem h2 s3 hD3 hl3 hsg => ?_
    refine ⟨_, D, chs stem, rfl, rfl, .inl (SqL.of (h2.1 _ _ hD3)), ?_, ?_⟩
    · rw [chs_sum]
      show stem.length + (chs stem).length * 0 ≤ _
      omega
    have hstem : (Txt.join ("" : Str) (chs stem)).cps.toList = stem := by rw [TL.join_eq, join_chs]
    have hstl : stem.length ≤ 4 := by omega
    generalize Txt.join ("" : Str) (chs stem) = stemS at hstem ⊢
    replace h2 := h2.more (k := m + 5) (by omega)
    clear h1 hD hD3 hl3 hS
    -- letter, offset, stride, plan
    refine ⟨_, rfl, _, rfl, st, 26, m + 5, H3, rfl, by decide, by decide, by omega, h2, fun H4 dl hl0 hl1 h4 => ?_⟩
    obtain ⟨c, hc, hcs, hce⟩ := sign_at hl0 (by omega)
    have hcb : 97 ≤ c ∧ c < 123 := by have := hce hl1; omega
    refine ⟨signs, dl, c, rfl, rfl, w64 (by decide), hc, ?_⟩
    refine ⟨_, rfl, st, 26, m + 6, H3, rfl, by decide, by decide, by omega, h4, fun H5 off ho0 ho1 h5 => ?_⟩
    refine ⟨(by show 6 ≤ sizeLine; decide), fun p6 hp6 => ?_⟩
    have h6 := h5.new (o := .lst [.int 1, .int 3, .int 5, .int 7, .int 9, .int 11]) hp6
    have s6 := Same.trans s3 (h5.newS (o := .lst [.int 1, .int 3, .int 5, .int 7, .int 9, .int 11]) hp6)
    have hp6' : upd H3 p6 (.lst [.int 1, .int 3, .int 5, .int 7, .int 9, .int 11]) p6 = some (.lst [.int 1, .int 3, .int 5, .int 7, .int 9, .int 11]) := upd_same
    generalize upd H3 p6 (.lst [.int 1, .int 3, .int 5, .int 7, .int 9, .int 11]) = K3 at h6 s6 hp6' ⊢
    refine ⟨_, rfl, st, 6, m + 7, K3, rfl, by decide, by decide, by omega, h6, fun H7 sd hs0 hs1 h7 => ?_⟩
    obtain ⟨sd, rfl⟩ : ∃ k : Nat, sd = (k : Int) := ⟨sd.toNat, by omega⟩
    obtain ⟨s, hsv, hsa⟩ : ∃ s : Nat, (s = 1 ∨ s = 3 ∨ s = 5 ∨ s = 7 ∨ s = 9 ∨ s = 11) ∧ [V.int 1, V.int 3, V.int 5, V.int 7, V.int 9, V.int 11][sd]? = some (V.int (s : Nat)) := by
      have : sd < 6 := by omega
      match sd, this with
      | 0, _ => exact ⟨1, by decide, rfl⟩
      | 1, _ => exact ⟨3, by decide, rfl⟩
      | 2, _ => exact ⟨5, by decide, rfl⟩
      | 3, _ => exact ⟨7, by decide, rfl⟩
      | 4, _ => exact ⟨9, by decide, rfl⟩
      | 5, _ => exact ⟨11, by decide, rfl⟩
    refine ⟨p6, _, _, _, rfl, rfl, SqL.of (h7.1 _ _ hp6'), atI_nat hsa, ?_⟩
    refine ⟨_, rfl, st, 7, m + 8, K3, rfl, by decide, by decide, by omega, h7, fun H8 plan hp0 hp1 h8 => ?_⟩
    obtain ⟨off, rfl⟩ : ∃ k : Nat, off = (k : Int) := ⟨off.toNat, by omega⟩
    obtain ⟨plan, rfl⟩ : ∃ k : Nat, plan = (k : Int) := ⟨plan.toNat, by omega⟩
    clear h2 h4 h5 h6 h7 hp6 hp6' hsa
    -- plan 6
    refine ⟨_, rfl, rfl, _, rfl, ?_⟩
    by_cases e6 : plan = 6
    · rw [decide_eq_true (show V.int (plan : Nat) = V.int 6 by rw [e6]; rfl)]
      refine iteT ⟨_, rfl, _, _, rfl, rfl, _, rfl, ?_⟩
      rw [decide_eq_true (show (n : Int) < 7 by omega)]
      refine iteT ⟨(by show 6 ≤ sizeLine; decide), fun p hp => ⟨_, rfl, _, rfl, p, _, rfl, SqL.of upd_same, fun r hr1 => ?_⟩⟩
      have g1 := h8.new (o := .lst (six.map V.str)) hp
      have g2 := Same.trans s6 (h8.newS (o := .lst (six.map V.str)) hp)
      have ecut : cutV (six.map V.str) none (some (n : Int)) = (six.take n).map V.str := by
        unfold cutV
        rw [HT.sIx_nat, HT.sIx_none, List.drop_zero, Nat.sub_zero, List.map_take]
        congr 1
        rw [List.length_map, show six.length = 6 from rfl]
        omega
      show Q (.ref r) (upd _ r (.lst (cutV (six.map V.str) none (some (n : Int)))))
      rw [ecut]
      exact q _ _ r (six.take n) ((g1.new (o := .lst ((six.take n).map V.str)) hr1).more (by omega)) (Same.trans g2 (g1.newS (o := .lst ((six.take n).map V.str)) hr1)) upd_same (good_six hn6)
    rw [decide_eq_false (show ¬ V.int (plan : Nat) = V.int 6 from fun z => e6 (by have := V.int.inj z; omega))]
    -- plan 4
    refine iteF (iteF ⟨_, rfl, rfl, _, rfl, ?_⟩)
    have key : ∀ (H9 H' : Hp) (D : Addr) (N : List Str), StAt K3 H9 st (m + 60) → H9 D = none → Same H9 H' → H' D = some (.lst (N.map V.str)) → NsGood N n → Q (.ref D) H' := by
      intro H9 H' D N g hD sm e hN
      obtain ⟨H0', a1, a2, a3, a4, a5⟩ := g.lift sm
      exact q H' H0' D N (a1.more (by omega)) (Same.trans s6 a2) (a5 D _ hD e) hN
    by_cases e4 : plan = 4
    · rw [decide_eq_true (show V.int (plan : Nat) = V.int 4 by rw [e4]; rfl)]
      refine iteT (iteT ⟨_, rfl, st, 9, m + 9, K3, rfl, by decide, by decide, by omega, h8, fun H9 d hd0 hd1 h9 => ⟨_, _, rfl, rfl, ?_⟩⟩)
      obtain ⟨d, rfl⟩ : ∃ k : Nat, d = (k : Int) := ⟨d.toNat, by omega⟩
      refine ⟨_, rfl, n, rfl, by omega, by omega, fun D hD => ?_⟩
      refine lc_range (n := n) (CI _ D fun i H acc => acc = ((List.range i).map fun k => (⟨#[c]⟩ : Str) ++ numS ((1 + d) * (k + 1))).map V.str) (CI.start hD rfl) ?_ ?_
      · rintro i H' hi ⟨z, acc, hd, hal, rfl⟩
        have hb : (1 + d) * (i + 1) ≤ 9 * 6 := Nat.mul_le_mul (by omega) (by omega)
        have ei : (1 + (d : Int)) * (0 + (i : Nat) + 1) = (((1 + d) * (i + 1) : Nat) : Int) := by
          rw [Int.zero_add]
          push_cast
          rfl
        refine ⟨rfl, _, rfl, _, rfl, _, rfl, _, _, rfl, rfl, _, _, rfl, rfl, .inl ⟨by omega, by omega⟩, _, rfl, ?_, _, _, rfl, rfl, ?_, ?_⟩
        · rw [ei]
          exact Nat.lt_of_le_of_lt (Nat.log2_le_self _) (by omega)
        · rw [ei]
          have := (num_sg (k := (1 + d) * (i + 1)) (by omega)).1
          have e1 : (numS ((1 + d) * (i + 1))).length = (numS ((1 + d) * (i + 1))).cps.toList.length := by rw [Array.length_toList]; rfl
          show 1 + (numS ((1 + d) * (i + 1))).length ≤ _
          rw [sizeLine_eq]
          omega
        · refine CI.more hD (by rw [sizeLine_eq]; omega) z hd hal ?_
          rw [ei, List.range_succ, List.map_append, List.map_append]
          rfl
      · rintro H' ⟨z, acc, hd, hal, rfl⟩
        exact key H9 H' D _ (h9.more (by omega)) hD z hd (good_num hn6 hcb (by omega) (by omega))
    rw [decide_eq_false (show ¬ V.int (plan : Nat) = V.int 4 from fun z => e4 (by have := V.int.inj z; omega))]
    -- plan 5
    refine iteF ⟨_, rfl, rfl, _, rfl, ?_⟩
    by_cases e5 : plan = 5
    · have t5 : decide (V.int (plan : Nat) = V.int 5) = true := decide_eq_true (by rw [e5]; rfl)
      rw [t5]
      refine iteT ⟨_, rfl, _, _, rfl, rfl, _, rfl, ?_⟩
      rw [decide_eq_false (show ¬ (6 : Int) < n by omega)]
      refine iteF ⟨_, rfl, rfl, _, rfl, ?_⟩
      rw [t5]
      refine iteT ⟨_, rfl, ⟨_, rfl⟩, 5, rfl, by decide, by decide, fun D hD => ?_⟩
      refine signs_lc (n := 5) (h8.more (k := m + 9) (by omega)) hD (by omega) (by omega) (fun _ => rfl) (fun _ => rfl) (fun _ => rfl) fun H9 H10 cs h9 s10 hD10 hl10 hsg10 => ?_
      refine ⟨_, D, chs cs, rfl, rfl, .inl (SqL.of (h9.1 _ _ hD10)), ?_, ?_⟩
      · rw [chs_sum]
        show cs.length + (chs cs).length * 0 ≤ _
        omega
      have hcj : (Txt.join ("" : Str) (chs cs)).cps.toList = cs := by rw [TL.join_eq, join_chs]
      generalize Txt.join ("" : Str) (chs cs) = jS at hcj ⊢
      have hjl : jS.length = 5 := by
        have : jS.cps.toList.length = 5 := by rw [hcj, hl10]
        rw [Array.length_toList] at this
        exact this
      refine ⟨_, _, rfl, rfl, ?_, ?_⟩
      · rw [hjl]
        exact w64 (show 1 + 5 ≤ 64 by omega)
      have hwl : ((⟨#[c]⟩ : Str) ++ jS).cps.toList = c :: cs := by rw [app_list, hcj]; rfl
      have hwn : ((⟨#[c]⟩ : Str) ++ jS).length = 6 := by
        have : ((⟨#[c]⟩ : Str) ++ jS).cps.toList.length = 6 := by rw [hwl, List.length_cons, hl10]
        rw [Array.length_toList] at this
        exact this
      generalize (⟨#[c]⟩ : Str) ++ jS = wS at hwl hwn ⊢
      refine ⟨_, rfl, n, rfl, by omega, by omega, fun D2 hD2 => ?_⟩
      refine lc_range (n := n) (CI _ D2 fun i H acc => acc = ((List.range i).map fun k => cutS wS none (some ((0 : Int) + (k : Nat) + 1))).map V.str) (CI.start hD2 rfl) ?_ ?_
      · rintro i H' hi ⟨z, acc, hd, hal, rfl⟩
        refine ⟨rfl, _, rfl, _, rfl, _, _, rfl, rfl, _, rfl, wS, rfl, by rw [hwn]; decide, ?_⟩
        refine CI.more hD2 (by rw [sizeLine_eq]; omega) z hd hal ?_
        rw [List.range_succ, List.map_append, List.map_append]
        rfl
      · rintro H' ⟨z, acc, hd, hal, rfl⟩
        obtain ⟨H0', a1, a2, a3, a4, a5⟩ := h9.lift z
        refine q H' H0' D2 _ (a1.more (by omega)) (Same.trans s6 (Same.trans s10 a2)) (a5 D2 _ hD2 hd) (good_pre hn6 hcb hl10 hsg10 fun k hk => ?_)
        rw [← hwl]
        unfold cutS
        rw [show (0 : Int) + (k : Nat) + 1 = ((k + 1 : Nat) : Int) by omega, HT.sIx_nat, HT.sIx_none, List.drop_zero, Nat.sub_zero, hwn]
        show ((wS.cps.toList.take (min (k + 1) 6)).toArray).toList = _
        rw [List.toList_toArray, Nat.min_eq_left (by omega)]
    have t5 : decide (V.int (plan : Nat) = V.int 5) = false := decide_eq_false fun z => e5 (by have := V.int.inj z; omega)
    rw [t5]
    refine iteF (iteF ⟨_, rfl, rfl, _, rfl, ?_⟩)
    rw [t5]
    -- words
    refine iteF ⟨Nat.zero_le _, fun l0 hl0 => ?_⟩
    have hp4 : plan < 4 := by omega
    have words : ∀ (bk : Nat → Str) (fw : Nat → Str), (∀ k, (bk k).cps.toList = stem ∨ (bk k).cps.toList = []) → (∀ k, fw k = if plan % 2 = 1 then (⟨#[sgk off s k]⟩ : Str) ++ bk k else (⟨#[c]⟩ : Str) ++ bk k ++ ⟨#[sgk off s k]⟩) → NsGood ((List.range n).map fw) n := by
      intro bk fw h1 h2
      refine good_words hn6 hcb (o := off) hsv (b := fun k => (bk k).cps.toList) (fun k => ?_) (decide (plan % 2 = 1)) fun k hk => ?_
      · rcases h1 k with e | e
        · rw [e]; exact ⟨hstl, hsg⟩
        · rw [e]; exact ⟨by simp, fun y hy => by cases hy⟩
      · rw [h2 k]
        by_cases e : plan % 2 = 1
        · rw [if_pos e, decide_eq_true e, if_pos rfl, app_list]
          rfl
        · rw [if_neg e, decide_eq_false e, if_neg (by simp), app_list, app_list]
          rfl
    let bk : Nat → Str := fun k => if plan > 1 ∧ k % 2 = 1 then "" else stemS
    let fw : Nat → Str := fun k => if plan % 2 = 1 then (⟨#[sgk off s k]⟩ : Str) ++ bk k else (⟨#[c]⟩ : Str) ++ bk k ++ ⟨#[sgk off s k]⟩
    have hbk : ∀ k, (bk k).cps.toList = stem ∨ (bk k).cps.toList = [] := fun k => by
      show (if plan > 1 ∧ k % 2 = 1 then ("" : Str) else stemS).cps.toList = stem ∨ (if plan > 1 ∧ k % 2 = 1 then ("" : Str) else stemS).cps.toList = []
      split
      · exact .inr rfl
      · exact .inl hstem
    have hgood := words bk fw hbk fun k => rfl
    refine ⟨_, rfl, n, rfl, by omega, by omega, for_range (n := n) (fun i σ H' => (∃ v1 v2 v3, σ = [some (.ref st), some (.int n), some (.str signs), some (.str stemS), some (.str ⟨#[c]⟩), some (.int off), some (.int s), some (.int plan), none, none, some (.ref l0), v1, v2, v3]) ∧
      Same H8 H' ∧ H' l0 = some (.lst (((List.range i).map fw).map V.str))) ⟨⟨none, none, none, rfl⟩, same_upd hl0, upd_same⟩ ?_ ?_⟩
    · rintro i σ H' hi ⟨⟨v1, v2, v3, rfl⟩, z, hw⟩
      have hbkl : ∀ k, (bk k).length ≤ 4 := fun k => by
        have e : (bk k).length = (bk k).cps.toList.length := by rw [Array.length_toList]; rfl
        rw [e]
        rcases hbk k with z | z
        · rw [z]; exact hstl
        · rw [z]; simp
      have hwl : (((List.range i).map fw).map V.str).length < sizeLine := by
        rw [List.length_map, List.length_map, List.length_range, sizeLine_eq]
        omega
      have hs11 : s ≤ 11 := by omega
      have hoff : off < 26 := by omega
      have hidx : ((off : Int) + (s : Int) * (0 + (i : Nat))) % 26 = (((off + s * i) % 26 : Nat) : Int) := by
        rw [Int.zero_add]
        push_cast
        rfl
      obtain ⟨ch, hch, _, hce2⟩ := sign_at (d := (((off + s * i) % 26 : Nat) : Int)) (by omega) (by omega)
      have hch2 : ch = sgk off s i := by
        have := hce2 (by omega)
        rw [this]
        rfl
      subst hch2
      refine ⟨_, rfl, _, rfl, _, rfl, _, rfl, _, _, rfl, rfl, .inl ⟨by omega, by omega⟩, _, _, rfl, rfl, .inl ⟨_, rfl, _, _, rfl, rfl, (by show (0 : Int) < 26; decide), signs, _, _, rfl, rfl, w64 (by decide), (by rw [hidx]; exact hch), ?_⟩⟩
      refine ⟨_, rfl, (by show 2 ≤ sizeLine; decide), fun p2 hp2 => ⟨_, rfl, _, _, rfl, rfl, _, rfl, ?_⟩⟩
      by_cases hpl : plan > 1
      · rw [decide_eq_true (show (1 : Int) < (plan : Int) by omega)]
        refine iteT ⟨_, rfl, _, _, rfl, rfl, (by show (0 : Int) < 2; decide), rfl, ?_⟩
        by_cases hod : i % 2 = 1
        · rw [decide_eq_true (show V.int ((0 + (i : Int)) % 2) = V.int 1 from congrArg V.int (by omega))]
          refine .inr ⟨true, rfl, p2, _, 1, .str "", rfl, rfl, SqL.of upd_same, at1, ?_⟩
          have hbe : bk i = "" := if_pos ⟨hpl, hod⟩
          have hbl : ("" : Str).length ≤ 4 := by
           rw [← hbe]
           exact hbkl i
          have s2 := same_upd (o := .lst [.str stemS, .str ""]) hp2
          have z2 := Same.trans z s2
          have hw2 := s2 _ _ hw
          generalize upd H' p2 (.lst [.str stemS, .str ""]) = H3 at s2 z2 hw2 ⊢
          refine ⟨_, rfl, .inl ⟨rfl, _, SqL.of hw2⟩, _, rfl, _, rfl, _, _, rfl, rfl, w64 (show 1 + ("" : Str).length ≤ 64 by omega), _, rfl, _, _, rfl, rfl, w64 (show ((⟨#[c]⟩ : Str) ++ "").length + 1 ≤ 64 by rw [PySem.Str.length_append]; show 1 + ("" : Str).length + 1 ≤ 64; omega), _, rfl, _, rfl, _, _, rfl, rfl, w64 (show 1 + ("" : Str).length ≤ 64 by omega), (by show 2 ≤ sizeLine; decide), fun p3 hp3 => ?_⟩
          have s4 := same_upd (o := .lst [.str ((⟨#[c]⟩ : Str) ++ "" ++ ⟨#[sgk off s i]⟩), .str ((⟨#[sgk off s i]⟩ : Str) ++ "")]) hp3
          have z4 := Same.trans z2 s4
          have hw4 := s4 _ _ hw2
          refine ⟨_, rfl, .inl ⟨_, rfl, _, _, rfl, rfl, (by show (0 : Int) < 2; decide), p3, _, ((plan : Int) % 2), .str (fw i), rfl, rfl, SqL.of upd_same, ?_, l0, _, _, rfl, rfl, hw4, hwl, ⟨_, _, _, rfl⟩, Same.upd_after z4 hl0, ?_⟩⟩
          · show atI [V.str ((⟨#[c]⟩ : Str) ++ "" ++ ⟨#[sgk off s i]⟩), V.str ((⟨#[sgk off s i]⟩ : Str) ++ "")] ((plan : Int) % 2) = some (.str (if plan % 2 = 1 then (⟨#[sgk off s i]⟩ : Str) ++ bk i else (⟨#[c]⟩ : Str) ++ bk i ++ ⟨#[sgk off s i]⟩))
            rw [hbe]
            by_cases e : plan % 2 = 1
            · rw [if_pos e, show (plan : Int) % 2 = 1 by omega]
              exact at1
            · rw [if_neg e, show (plan : Int) % 2 = 0 by omega]
              exact at0
          · rw [List.range_succ, List.map_append, List.map_append]
            exact upd_same
        · rw [decide_eq_false (show ¬ V.int ((0 + (i : Int)) % 2) = V.int 1 from fun z => by have := V.int.inj z; omega)]
          refine .inr ⟨false, rfl, p2, _, 0, .str stemS, rfl, rfl, SqL.of upd_same, at0, ?_⟩
          have hbe : bk i = stemS := if_neg (fun z => hod z.2)
          have hbl : (stemS : Str).length ≤ 4 := by
           rw [← hbe]
           exact hbkl i
          have s2 := same_upd (o := .lst [.str stemS, .str ""]) hp2
          have z2 := Same.trans z s2
          have hw2 := s2 _ _ hw
          generalize upd H' p2 (.lst [.str stemS, .str ""]) = H3 at s2 z2 hw2 ⊢
          refine ⟨_, rfl, .inl ⟨rfl, _, SqL.of hw2⟩, _, rfl, _, rfl, _, _, rfl, rfl, w64 (show 1 + (stemS : Str).length ≤ 64 by omega), _, rfl, _, _, rfl, rfl, w64 (show ((⟨#[c]⟩ : Str) ++ stemS).length + 1 ≤ 64 by rw [PySem.Str.length_append]; show 1 + (stemS : Str).length + 1 ≤ 64; omega), _, rfl, _, rfl, _, _, rfl, rfl, w64 (show 1 + (stemS : Str).length ≤ 64 by omega), (by show 2 ≤ sizeLine; decide), fun p3 hp3 => ?_⟩
          have s4 := same_upd (o := .lst [.str ((⟨#[c]⟩ : Str) ++ stemS ++ ⟨#[sgk off s i]⟩), .str ((⟨#[sgk off s i]⟩ : Str) ++ stemS)]) hp3
          have z4 := Same.trans z2 s4
          have hw4 := s4 _ _ hw2
          refine ⟨_, rfl, .inl ⟨_, rfl, _, _, rfl, rfl, (by show (0 : Int) < 2; decide), p3, _, ((plan : Int) % 2), .str (fw i), rfl, rfl, SqL.of upd_same, ?_, l0, _, _, rfl, rfl, hw4, hwl, ⟨_, _, _, rfl⟩, Same.upd_after z4 hl0, ?_⟩⟩
          · show atI [V.str ((⟨#[c]⟩ : Str) ++ stemS ++ ⟨#[sgk off s i]⟩), V.str ((⟨#[sgk off s i]⟩ : Str) ++ stemS)] ((plan : Int) % 2) = some (.str (if plan % 2 = 1 then (⟨#[sgk off s i]⟩ : Str) ++ bk i else (⟨#[c]⟩ : Str) ++ bk i ++ ⟨#[sgk off s i]⟩))
            rw [hbe]
            by_cases e : plan % 2 = 1
            · rw [if_pos e, show (plan : Int) % 2 = 1 by omega]
              exact at1
            · rw [if_neg e, show (plan : Int) % 2 = 0 by omega]
              exact at0
          · rw [List.range_succ, List.map_append, List.map_append]
            exact upd_same
      · rw [decide_eq_false (show ¬ (1 : Int) < (plan : Int) by omega)]
        refine iteF (.inr ⟨false, rfl, p2, _, 0, .str stemS, rfl, rfl, SqL.of upd_same, at0, ?_⟩)
        have hbe : bk i = stemS := if_neg (fun z => hpl z.1)
        have hbl : (stemS : Str).length ≤ 4 := by
         rw [← hbe]
         exact hbkl i
        have s2 := same_upd (o := .lst [.str stemS, .str ""]) hp2
        have z2 := Same.trans z s2
        have hw2 := s2 _ _ hw
        generalize upd H' p2 (.lst [.str stemS, .str ""]) = H3 at s2 z2 hw2 ⊢
        refine ⟨_, rfl, .inl ⟨rfl, _, SqL.of hw2⟩, _, rfl, _, rfl, _, _, rfl, rfl, w64 (show 1 + (stemS : Str).length ≤ 64 by omega), _, rfl, _, _, rfl, rfl, w64 (show ((⟨#[c]⟩ : Str) ++ stemS).length + 1 ≤ 64 by rw [PySem.Str.length_append]; show 1 + (stemS : Str).length + 1 ≤ 64; omega), _, rfl, _, rfl, _, _, rfl, rfl, w64 (show 1 + (stemS : Str).length ≤ 64 by omega), (by show 2 ≤ sizeLine; decide), fun p3 hp3 => ?_⟩
        have s4 := same_upd (o := .lst [.str ((⟨#[c]⟩ : Str) ++ stemS ++ ⟨#[sgk off s i]⟩), .str ((⟨#[sgk off s i]⟩ : Str) ++ stemS)]) hp3
        have z4 := Same.trans z2 s4
        have hw4 := s4 _ _ hw2
        refine ⟨_, rfl, .inl ⟨_, rfl, _, _, rfl, rfl, (by show (0 : Int) < 2; decide), p3, _, ((plan : Int) % 2), .str (fw i), rfl, rfl, SqL.of upd_same, ?_, l0, _, _, rfl, rfl, hw4, hwl, ⟨_, _, _, rfl⟩, Same.upd_after z4 hl0, ?_⟩⟩
        · show atI [V.str ((⟨#[c]⟩ : Str) ++ stemS ++ ⟨#[sgk off s i]⟩), V.str ((⟨#[sgk off s i]⟩ : Str) ++ stemS)] ((plan : Int) % 2) = some (.str (if plan % 2 = 1 then (⟨#[sgk off s i]⟩ : Str) ++ bk i else (⟨#[c]⟩ : Str) ++ bk i ++ ⟨#[sgk off s i]⟩))
          rw [hbe]
          by_cases e : plan % 2 = 1
          · rw [if_pos e, show (plan : Int) % 2 = 1 by omega]
            exact at1
          · rw [if_neg e, show (plan : Int) % 2 = 0 by omega]
            exact at0
        · rw [List.range_succ, List.map_append, List.map_append]
          exact upd_same
    · rintro σ H' ⟨⟨v1, v2, v3, rfl⟩, z, hw⟩
      exact ⟨_, rfl, key H8 H' l0 _ (h8.more (by omega)) hl0 z hw hgood⟩
end
end L2.K25

namespace L2.K25
open PySem PySem.Spec PyProof.Rows
/-! _law_told, _law_unlike -/
inductive Told where
  | pw (F : List (List Str))
  | cv (b : Bool)
  | un (M : List Str)
def TV (H : Hp) (xs : List V) : Told → Prop
  | .pw F => ∃ t, xs = [.str "power", .ref t] ∧ TsA H t F
  | .cv b => xs = [.str "covers", .bl b]
  | .un M => ∃ y, xs = [.str "unlike", y] ∧ TS H y M
def toldOf (k : Int) (N M : List Str) (L L' : List (List Str)) : Told :=
  if N = M then if k = 0 then .pw (G N fun c => KM.forced L c || KM.forced L' c) else if k = 1 then .pw (G N fun c => KM.forced L c && KM.forced L' c) else .cv (L'.all (KM.forced L)) else .un M
def dTd : Told → PyData
  | .pw F => .list [.str "power", dTT F]
  | .cv b => .list [.str "covers", .bool b]
  | .un M => .list [.str "unlike", dT M]
/-- at q stands such a list -/
def TLst (H : Hp) (q : Addr) (t : Told) : Prop := ∃ xs, H q = some (.lst xs) ∧ TV H xs t
theorem TV.mono {H H' : Hp} {xs : List V} : ∀ {t : Told}, Same H H' → TV H xs t → TV H' xs t
  | .pw F, s, ⟨t, e, h⟩ => ⟨t, e, h.mono s⟩
  | .cv b, s, h => h
  | .un M, s, ⟨y, e, h⟩ => ⟨y, e, h.mono s⟩
theorem TLst.mono {H H' : Hp} {q : Addr} {t : Told} (s : Same H H') (h : TLst H q t) : TLst H' q t := let ⟨xs, e, v⟩ := h; ⟨xs, s _ _ e, v.mono s⟩
theorem TsA.updL {H : Hp} {D a : Addr} {F : List (List Str)} {xs ys : List V} (e : H D = some (.lst xs)) (h : TsA H a F) : TsA (upd H D (.lst ys)) a F := by
  obtain ⟨vs, h1, h2⟩ := h
  exact ⟨vs, by rw [upd_ne (ne_of h1 e (by intro z; cases z))]; exact h1, h2.updL e⟩
theorem TLst.updL {H : Hp} {D q : Addr} {t : Told} {xs ys : List V} (e : H D = some (.lst xs)) (ne : q ≠ D) (h : TLst H q t) : TLst (upd H D (.lst ys)) q t := by
  obtain ⟨zs, h1, h2⟩ := h
  refine ⟨zs, by rw [upd_ne ne]; exact h1, ?_⟩
  cases t with
  | pw F => obtain ⟨t, e', h⟩ := h2; exact ⟨t, e', h.updL e⟩
  | cv b => exact h2
  | un M => obtain ⟨y, e', h⟩ := h2; exact ⟨y, e', h.updL e⟩
section
variable {K : PySem.W.Frag} {H : Hp} {q a b : Addr} {t : Told} {Q : VK}
theorem dp_told (h : TLst H q t) : Dp K H (.ref q) (dTd t) := by
  obtain ⟨xs, h1, h2⟩ := h
  cases t with
  | pw F =>
    obtain ⟨t, rfl, h⟩ := h2
    exact .lst (SqL.of h1) (.cons (.str _) (.cons (dp_TT h) .nil))
  | cv b =>
    cases (show xs = [.str "covers", .bl b] from h2)
    exact .lst (SqL.of h1) (.cons (.str _) (.cons (.bl _) .nil))
  | un M =>
    obtain ⟨y, rfl, h⟩ := h2
    exact .lst (SqL.of h1) (.cons (.str _) (.cons (dp_T h) .nil))
theorem shp_tupF (F : List (List Str)) : (dTT F).plain = true ∧ (dTT F).depth ≤ 2 := by
  have := depF F
  simp only [dTT, PyData.plain, layF F, PyData.depth, true_and]
  omega
theorem plain_told (t : Told) : (dTd t).plain = true ∧ (dTd t).depth ≤ 10 := by
  cases t with
  | pw F =>
    obtain ⟨h1, h2⟩ := shp_tupF F
    simp only [dTd, PyData.plain, PyData.plainAll, PyData.depth, PyData.depthAll, h1, Bool.and_self, true_and]
    omega
  | cv b => simp [dTd, PyData.plain, PyData.plainAll, PyData.depth, PyData.depthAll]
  | un M =>
    have h1 : (dT M).plain = true := by simp only [dT, PyData.plain, layT M]
    have h2 : (dT M).depth ≤ 1 := by simp only [dT, PyData.depth, depS M]; omega
    simp only [dTd, PyData.plain, PyData.plainAll, PyData.depth, PyData.depthAll, h1, Bool.and_self, true_and]
    omega
theorem shp_told (t : Told) : shp (dTd t) = true := by
  obtain ⟨h1, h2⟩ := plain_told t
  unfold shp
  rw [h1, decide_eq_true (show (dTd t).depth ≤ 60 by omega)]
  rfl
theorem eqv_told (t : Told) : PyData.eqv (dTd t) (dTd t) = true := PySem.SeqAt.eqv_refl_plain _ (plain_told t).1
theorem ne_told (h1 : TLst H a t) (h2 : TLst H b t) (q : Q (.bl false) H) : rNeP K (.ref a) (.ref b) H Q := ⟨_, _, dp_told h1, dp_told h2, shp_told t, shp_told t, by rw [eqv_told]; exact q⟩
end
def spTold (C : Addr) : Sp := fun vs H Q _ => ∃ (k : Int) (u v : V) (N M : List Str) (L L' : List (List Str)), vs = [.int k, u, v] ∧ PowAt C H u N L ∧ PowAt C H v M L' ∧ PL N L ∧ PL M L' ∧ ∀ H' q, Same H H' → H q = none → TLst H' q (toldOf k N M L L') → Q (.ref q) H'
def spUnlike (C : Addr) : Sp := fun vs H Q _ => ∃ (u v : V) (N M : List Str) (L L' : List (List Str)), vs = [u, v] ∧ PowAt C H u N L ∧ PowAt C H v M L' ∧ PL N L ∧ PL M L' ∧ ∀ H', Same H H' → Q (.bl true) H'
section
variable {P : Program} {w : World} {K : PySem.W.Frag} {mg : Str → Option Value} {base : Heap} {f : Addr} {fd : FuncData}
abbrev DTold (P w K mg base C) := Df P w K mg base CX0 6 "_law_told" sLawTold ["_law_plan", "_law_one", "_law_two"] (spTold C)
abbrev DUnlike (P w K mg base C) := Df P w K mg base CX0 7 "_law_unlike" sLawUnlike ["_law_one", "_law_far"] (spUnlike C)
theorem cv_ : ¬ (("covers" : Str) = "least") := by decide +kernel
theorem cv2_ : ¬ (("covers" : Str) = "names") := by decide +kernel
theorem scTold : FnScope ["_law_plan", "_law_one", "_law_two", "e"] ["_law_plan", "_law_one", "_law_two"] (defScope sLawTold) := ⟨rfl, rfl, rfl, by decide +kernel, rfl, by decide +kernel, by decide +kernel⟩
theorem ok_told (F : Fun K "_law_told" "_law_told" sLawTold f fd) (T : Txt K mg) (Z : PwT K mg) (Y : ExT K mg) (G_or : DOr P w K mg base Z.C Y.C) (G_and : DAnd P w K mg base Z.C Y.C) (G_covers : DCovers P w K mg base Z.C Y.C) (G_sets : DSets P w K mg base Z.C) :
    FnOk P w K mg base CX0 6 f fd ["_law_plan", "_law_one", "_law_two"] (spTold Z.C) := by
  refine F.ok scTold (fun vs H Q E h => ?_) (fun cdv A outer s H vs Q E hr h => ?_)
  · obtain ⟨k, u, v, N, M, L, L', rfl, _⟩ := h
    rfl
  · obtain ⟨k, u, v, N, M, L, L', rfl, hu, hv, hL, hL', q⟩ := h
    refine ⟨_, (pss_one (ps_try_as (i := 3) rfl rfl scTold.nd rfl rfl ⟨rfl, by decide, Or.inl Y.gC⟩ takes0 (fun W pn xe tk _ => (pss_cons (ps_if (pt_cmpR op_eq (pv 0) pe_int (nomark _)) (pss_one (ps_ret (pe_lst (pa_cons pe_str (pa_cons (pe_prop (pe_binS (E := WE W) Z.sf G_or.mt.at_ G_or.mt.fn G_or.ok (hr.mono (by decide)) G_or.b (fun σ => passAt tk σ) (pv 1) (pv 2)) Z.cl G_sets.pr G_sets.ok (hr.mono (by decide)) G_sets.b .nil pass0 rfl) pa_nil))))) pss_nil) (pss_cons (ps_if (pt_cmpR op_eq (pv 0) pe_int (nomark _)) (pss_one (ps_ret (pe_lst (pa_cons pe_str (pa_cons (pe_prop (pe_binS (E := WE W) Z.sf G_and.mt.at_ G_and.mt.fn G_and.ok (hr.mono (by decide)) G_and.b (fun σ => passAt tk σ) (pv 1) (pv 2)) Z.cl G_sets.pr G_sets.ok (hr.mono (by decide)) G_sets.b .nil pass0 rfl) pa_nil))))) pss_nil) (pss_one (ps_ret (pe_lst (pa_cons pe_str (pa_cons (pe_methE (E := WE W) (pv 1) Z.cl G_covers.mt G_covers.ok (hr.mono (by decide)) G_covers.b (fun σ => passAt tk σ) (pv 2)) pa_nil)))))))) (fun a oe cls d pn hz hf => (pss_one (ps_ret (pe_lst (pa_cons pe_str (pa_cons (pe_xf Y.xf Y.noN hz hf (pv 3)) pa_nil)))))))), ?_⟩
    have hu0 := hu
    obtain ⟨p, dx, n, t, rfl, hp, hn, ht⟩ := hu
    obtain ⟨p', dx', n', t', rfl, hp', hn', ht'⟩ := id hv
    refine ⟨_, rfl, rfl, _, rfl, ?_⟩
    by_cases e0 : k = 0
    · rw [decide_eq_true (show V.int k = V.int 0 by rw [e0])]
      refine iteT ⟨_, rfl, _, rfl, p, dx, _, p', dx', _, rfl, rfl, hp, hp', _, _, N, M, L, L', rfl, hu0, hv, hL, hL', fun eN H1 z s1 hz => ?_, fun ne d H1 y s1 hd hy => ⟨true, Y.te, fun _ a0 ha0 => ?_, fun z => Bool.noConfusion z⟩⟩
      · obtain ⟨pz, dz, nz, tz, rfl, hpz, hnz, htz⟩ := hz
        refine ⟨pz, dz, _, rfl, hpz, pz, dz, _, _, rfl, hpz, pwf_least _ _, (by show 2 ≤ sizeLine; decide), fun r hr1 => ?_⟩
        have s2 := same_upd (o := .lst [.str "power", .ref tz]) hr1
        refine q _ r (Same.trans s1 s2) (s1.free hr1) ?_
        unfold toldOf
        rw [if_pos eN, if_pos e0]
        exact ⟨_, upd_same, tz, rfl, htz.mono s2⟩
      · refine ⟨_, rfl, rfl, rfl, d, _, y, rfl, hd, by rfl, (by show 2 ≤ sizeLine; decide), fun r hr1 => ?_⟩
        have s2 := same_upd (o := .lst [.str "unlike", y]) hr1
        refine q _ r (Same.trans s1 s2) (s1.free hr1) ?_
        unfold toldOf
        rw [if_neg ne]
        exact ⟨_, upd_same, y, rfl, hy.mono s2⟩
    rw [decide_eq_false (show ¬ V.int k = V.int 0 from fun z => e0 (V.int.inj z))]
    refine iteF ⟨_, rfl, rfl, _, rfl, ?_⟩
    by_cases e1 : k = 1
    · rw [decide_eq_true (show V.int k = V.int 1 by rw [e1])]
      refine iteT ⟨_, rfl, _, rfl, p, dx, _, p', dx', _, rfl, rfl, hp, hp', _, _, N, M, L, L', rfl, hu0, hv, hL, hL', fun eN H1 z s1 hz => ?_, fun ne d H1 y s1 hd hy => ⟨true, Y.te, fun _ a0 ha0 => ?_, fun z => Bool.noConfusion z⟩⟩
      · obtain ⟨pz, dz, nz, tz, rfl, hpz, hnz, htz⟩ := hz
        refine ⟨pz, dz, _, rfl, hpz, pz, dz, _, _, rfl, hpz, pwf_least _ _, (by show 2 ≤ sizeLine; decide), fun r hr1 => ?_⟩
        have s2 := same_upd (o := .lst [.str "power", .ref tz]) hr1
        refine q _ r (Same.trans s1 s2) (s1.free hr1) ?_
        unfold toldOf
        rw [if_pos eN, if_neg e0, if_pos e1]
        exact ⟨_, upd_same, tz, rfl, htz.mono s2⟩
      · refine ⟨_, rfl, rfl, rfl, d, _, y, rfl, hd, by rfl, (by show 2 ≤ sizeLine; decide), fun r hr1 => ?_⟩
        have s2 := same_upd (o := .lst [.str "unlike", y]) hr1
        refine q _ r (Same.trans s1 s2) (s1.free hr1) ?_
        unfold toldOf
        rw [if_neg ne]
        exact ⟨_, upd_same, y, rfl, hy.mono s2⟩
    rw [decide_eq_false (show ¬ V.int k = V.int 1 from fun z => e1 (V.int.inj z))]
    refine iteF ⟨_, rfl, p, dx, _, rfl, hp, pwf_no _ _ cv_ cv2_, _, rfl, _, _, N, M, L, L', rfl, hu0, hv, hL, hL', fun eN H1 s1 => ⟨(by show 2 ≤ sizeLine; decide), fun r hr1 => ?_⟩, fun ne d H1 y s1 hd hy => ⟨true, Y.te, fun _ a0 ha0 => ?_, fun z => Bool.noConfusion z⟩⟩
    · have s2 := same_upd (o := .lst [.str "covers", .bl (L'.all (KM.forced L))]) hr1
      refine q _ r (Same.trans s1 s2) (s1.free hr1) ?_
      unfold toldOf
      rw [if_pos eN, if_neg e0, if_neg e1]
      exact ⟨_, upd_same, rfl⟩
    · refine ⟨_, rfl, rfl, rfl, d, _, y, rfl, hd, by rfl, (by show 2 ≤ sizeLine; decide), fun r hr1 => ?_⟩
      have s2 := same_upd (o := .lst [.str "unlike", y]) hr1
      refine q _ r (Same.trans s1 s2) (s1.free hr1) ?_
      unfold toldOf
      rw [if_neg ne]
      exact ⟨_, upd_same, y, rfl, hy.mono s2⟩

theorem scUnlike : FnScope ["_law_one", "_law_far", "_law_plan"] ["_law_one", "_law_far"] (defScope sLawUnlike) := ⟨rfl, rfl, rfl, by decide +kernel, rfl, by decide +kernel, by decide +kernel⟩
theorem ok_unlikeL (F : Fun K "_law_unlike" "_law_unlike" sLawUnlike f fd) (T : Txt K mg) (Z : PwT K mg) (G_outcomes : DOut P w K mg base Z.C) (G__law_told : DTold P w K mg base Z.C) : FnOk P w K mg base CX0 7 f fd ["_law_one", "_law_far"] (spUnlike Z.C) := by
  refine F.ok scUnlike (fun vs H Q E h => ?_) (fun cdv A outer s H vs Q E hr h => ?_)
  · obtain ⟨u, v, N, M, L, L', rfl, _⟩ := h
    rfl
  · obtain ⟨u, v, N, M, L, L', rfl, hu, hv, hL, hL', q⟩ := h
    refine ⟨_, (pss_cons (ps_for PassesOwn.never rfl (pi_range1 (by rfl) T.b_range (pa_cons pe_int pa_nil)) (pg_name (i := 2) scUnlike.nd rfl (Or.inl rfl)) (pss_cons (ps_if (PW.pt (pw_and (pt_cmpR (op_nePK K rfl hr.units) (pe_prop (pv 0) Z.cl G_outcomes.pr G_outcomes.ok (hr.mono (by decide)) G_outcomes.b .nil pass0 rfl) (pe_prop (pv 1) Z.cl G_outcomes.pr G_outcomes.ok (hr.mono (by decide)) G_outcomes.b .nil pass0 rfl) (nomark _)) (pw_and1 (pt_cmpR (op_nePK K rfl hr.units) (pe_call G__law_told.ok (hr.mono (by decide)) rfl G__law_told.m G__law_told.kp G__law_told.b .nil pass0 (pa_cons (pv 2) (pa_cons (pv 0) (pa_cons (pv 1) pa_nil)))) (pe_lst (pa_cons pe_str (pa_cons (pe_prop (pv 1) Z.cl G_outcomes.pr G_outcomes.ok (hr.mono (by decide)) G_outcomes.b .nil pass0 rfl) pa_nil))) (nomark _))))) (pss_one (ps_ret pe_bl)) pss_nil) (pss_one (ps_if (PW.pt (pw_and (pt_cmpR (op_nePK K rfl hr.units) (pe_prop (pv 0) Z.cl G_outcomes.pr G_outcomes.ok (hr.mono (by decide)) G_outcomes.b .nil pass0 rfl) (pe_prop (pv 1) Z.cl G_outcomes.pr G_outcomes.ok (hr.mono (by decide)) G_outcomes.b .nil pass0 rfl) (nomark _)) (pw_and1 (pt_cmpR (op_nePK K rfl hr.units) (pe_call G__law_told.ok (hr.mono (by decide)) rfl G__law_told.m G__law_told.kp G__law_told.b .nil pass0 (pa_cons (pv 2) (pa_cons (pv 1) (pa_cons (pv 0) pa_nil)))) (pe_lst (pa_cons pe_str (pa_cons (pe_prop (pv 0) Z.cl G_outcomes.pr G_outcomes.ok (hr.mono (by decide)) G_outcomes.b .nil pass0 rfl) pa_nil))) (nomark _))))) (pss_one (ps_ret pe_bl)) pss_nil)))) (pss_one (ps_ret pe_bl))), ?_⟩
    refine ⟨3, rfl, by decide, by decide, for_range (n := 3) (fun i σ H' => (∃ x, σ = [some u, some v, x]) ∧ Same H H') ⟨⟨none, rfl⟩, Same.refl _⟩ ?_ ?_⟩
    · rintro i σ H1 hi ⟨⟨x, rfl⟩, z⟩
      obtain ⟨p, dx, n, t, rfl, hp, hn, ht⟩ := hu.mono z
      obtain ⟨p', dx', n', t', rfl, hp', hn', ht'⟩ := hv.mono z
      refine ⟨_, rfl, p, dx, _, rfl, hp, p, dx, _, _, rfl, hp, pwf_names _ _, _, rfl, p', dx', _, rfl, hp', p', dx', _, _, rfl, hp', pwf_names _ _, neT hn.ts hn'.ts ⟨_, rfl, ?_⟩⟩
      by_cases eN : N = M
      · rw [decide_eq_true eN]
        refine iteF (iteF ?_)
        refine ⟨_, rfl, p, dx, _, rfl, hp, p, dx, _, _, rfl, hp, pwf_names _ _, _, rfl, p', dx', _, rfl, hp', p', dx', _, _, rfl, hp', pwf_names _ _, neT hn.ts hn'.ts ⟨_, rfl, ?_⟩⟩
        rw [decide_eq_true eN]
        exact ⟨⟨_, rfl⟩, z⟩
      · rw [decide_eq_false eN]
        refine iteT ⟨_, rfl, _, rfl, _, rfl, _, _, _, N, M, L, L', rfl, hu.mono z, hv.mono z, hL, hL', fun H2 q2 s2 hq2 ht2 => ?_⟩
        refine ⟨_, rfl, p', dx', _, rfl, s2 _ _ hp', p', dx', _, _, rfl, s2 _ _ hp', pwf_names _ _, (by show 2 ≤ sizeLine; decide), fun r hr1 => ?_⟩
        have s3 := same_upd (o := .lst [.str "unlike", .ref n']) hr1
        have et : toldOf (0 + (i : Nat)) N M L L' = .un M := if_neg eN
        rw [et] at ht2
        refine ne_told (ht2.mono s3) ⟨_, upd_same, .ref n', rfl, (hn'.ts.mono s2).mono s3⟩ ⟨_, rfl, iteF ?_⟩
        have z3 := Same.trans s2 s3
        have hp3 := z3 _ _ hp
        have hp3' := z3 _ _ hp'
        refine ⟨_, rfl, p, dx, _, rfl, hp3, p, dx, _, _, rfl, hp3, pwf_names _ _, _, rfl, p', dx', _, rfl, hp3', p', dx', _, _, rfl, hp3', pwf_names _ _, neT (hn.ts.mono z3) (hn'.ts.mono z3) ⟨_, rfl, ?_⟩⟩
        rw [decide_eq_false eN]
        refine iteT ⟨_, rfl, _, rfl, _, rfl, _, _, _, M, N, L', L, rfl, (hv.mono z).mono z3, (hu.mono z).mono z3, hL', hL, fun H4 q4 s4 hq4 ht4 => ?_⟩
        refine ⟨_, rfl, p, dx, _, rfl, s4 _ _ hp3, p, dx, _, _, rfl, s4 _ _ hp3, pwf_names _ _, (by show 2 ≤ sizeLine; decide), fun r5 hr5 => ?_⟩
        have s5 := same_upd (o := .lst [.str "unlike", .ref n]) hr5
        have et4 : toldOf (0 + (i : Nat)) M N L' L = .un N := if_neg fun e => eN e.symm
        rw [et4] at ht4
        refine ne_told (ht4.mono s5) ⟨_, upd_same, .ref n, rfl, ((hn.ts.mono z3).mono s4).mono s5⟩ ⟨_, rfl, iteF ?_⟩
        exact ⟨⟨_, rfl⟩, Same.trans z (Same.trans z3 (Same.trans s4 s5))⟩
    · rintro σ H1 ⟨⟨x, rfl⟩, z⟩
      exact q _ z
end
end L2.K25

namespace L2.K25
open PySem PySem.Spec PyProof.Rows
/-! _law_apart -/
def zz (k : Nat) : Str := ("zz" : Str) ++ numS k
theorem zz_all : (List.range 7).all (fun n => decide (n = 0) || (sortedS ((List.range n).map zz) && decide ((List.range n).map zz).Nodup && ((List.range n).map zz).all fun x => vnL x.cps.toList)) = true := by decide +kernel
theorem zz_ok {n : Nat} (h1 : 1 ≤ n) (h6 : n ≤ 6) : NmOk ((List.range n).map zz) := by
  have h := List.all_eq_true.mp zz_all n (List.mem_range.mpr (by omega))
  rw [decide_eq_false (by omega), Bool.false_or, Bool.and_eq_true, Bool.and_eq_true, decide_eq_true_eq, List.all_eq_true] at h
  exact ⟨h.1.1, h.1.2, by simpa using h1, by simpa using h6, fun x hx => vn_of (h.2 x hx)⟩
theorem zz0 : zz 0 = "zz0" := by decide +kernel
theorem zz9_ok : NmOk [("zz9" : Str)] := ⟨by decide +kernel, by simp, by simp, by simp, fun x hx => by
  rw [List.mem_singleton.mp hx]
  exact vn_of (by decide +kernel)⟩
theorem NmOk.tail {a b : Str} {r : List Str} (h : NmOk (a :: b :: r)) : NmOk (b :: r) where
  srt := by
    have := h.srt
    unfold sortedS risingS at this
    rw [Bool.and_eq_true] at this
    exact this.2
  nd := (List.nodup_cons.mp h.nd).2
  lo := by simp
  hi := by
    have := h.hi
    simp only [List.length_cons] at this ⊢
    omega
  vn := fun x hx => h.vn x (List.mem_cons_of_mem _ hx)
theorem one_sub {x : Str} {N : List Str} (h : x ∈ N) : ∀ c ∈ [[x]], c.Sublist N ∧ c ≠ [] := fun c hc => by
  rw [List.mem_singleton.mp hc]
  exact ⟨List.singleton_sublist.mpr h, by simp⟩
/-- the law's second sets: names without the first, or zz9 -/
def few (N : List Str) : List Str := match N with
  | [] => []
  | [_] => ["zz9"]
  | _ :: b :: r => b :: r
def few1 (N : List Str) : Str := match N with
  | _ :: b :: _ => b
  | _ => "zz9"
theorem few_ok {N : List Str} (h : NmOk N) : NmOk (few N) := by
  match N, h with
  | [], h => exact absurd h.lo (by simp)
  | [_], _ => exact zz9_ok
  | _ :: _ :: _, h => exact h.tail
theorem few1_in {N : List Str} (h : NmOk N) : few1 N ∈ few N := by
  match N, h with
  | [], h => exact absurd h.lo (by simp)
  | [_], _ => exact List.mem_singleton.mpr rfl
  | _ :: _ :: _, h => exact List.mem_cons_self
theorem few_cut {N : List Str} (h : NmOk N) : cutV (N.map V.str) (some 1) none ++ cutV [V.str "zz9"] none (some (if decide (V.int (((N.map V.str).length : Nat) : Int) = V.int 1) then 1 else 0)) = (few N).map V.str := by
  match N, h with
  | [], h => exact absurd h.lo (by simp)
  | [a], _ => rfl
  | a :: b :: r, _ =>
    have e : decide (V.int ((((a :: b :: r).map V.str).length : Nat) : Int) = V.int 1) = false := decide_eq_false fun z => by
      have := V.int.inj z
      simp only [List.map_cons, List.length_cons] at this
      omega
    rw [e]
    show (((a :: b :: r).map V.str).drop (HT.sIx ((a :: b :: r).map V.str).length 0 (some 1))).take (((a :: b :: r).map V.str).length - HT.sIx ((a :: b :: r).map V.str).length 0 (some 1)) ++ [] = (b :: r).map V.str
    have e1 : HT.sIx ((a :: b :: r).map V.str).length 0 (some 1) = 1 := by
      have := HT.sIx_nat ((a :: b :: r).map V.str).length 0 1
      rw [show ((1 : Nat) : Int) = 1 from rfl] at this
      rw [this]
      simp
    rw [e1, List.append_nil]
    simp
    rw [show r.length = (r.map V.str).length by simp, List.take_length]
theorem few_cut1 {N : List Str} (h : NmOk N) : cutV (N.map V.str ++ [V.str "zz9"]) (some 1) (some 2) = [V.str (few1 N)] := by
  match N, h with
  | [], h => exact absurd h.lo (by simp)
  | [a], _ => rfl
  | a :: b :: r, _ =>
    have e := cut_one (c := a :: b :: r ++ [("zz9" : Str)]) (s := 1) (x := b) rfl
    rw [List.map_append] at e
    exact e
def spApart (C : Addr) : Sp := fun vs H Q _ => ∃ (a : Addr) (u : V) (N M : List Str) (L : List (List Str)), vs = [.ref a, u] ∧ LNm H a N ∧ NmOk N ∧ PowAt C H u M L ∧ PL M L ∧ ∀ H', Same H H' → Q (.bl true) H'
theorem PL_mini {N : List Str} {F : List (List Str)} (ok : NmOk N) (ne : F ≠ []) (hF : ∀ c ∈ F, c.Sublist N ∧ c ≠ []) : PL N (KM.mini rle F) := by
  have e : KM.mini rle F = G N (KM.forced F) := KM.mini_gre rk_ok ok.nd fun c hc => (hF c hc).1
  rw [e]
  refine PL.gre ok (KM.up_forced N F) ?_ ?_
  · obtain ⟨c, hc⟩ := List.exists_mem_of_ne_nil F ne
    exact KM.forced_iff.mpr ⟨c, hc, KM.sub_iff.mpr fun x hx => (hF c hc).1.subset hx⟩
  · cases e : KM.forced F [] with
    | false => rfl
    | true =>
      obtain ⟨c, hc, hs⟩ := KM.forced_iff.mp e
      have hn := (hF c hc).2
      cases c with
      | nil => exact absurd rfl hn
      | cons x r => exact absurd (KM.sub_iff.mp hs x List.mem_cons_self) (by simp)
theorem make_at {C : Addr} {H : Hp} {o s x dx : Addr} {N : List Str} {F : List (List Str)} {Q : VK} {E : XK} (h3 : Names3 H o s N F) (ok : NmOk N) (ne : F ≠ []) (hl : F.length ≤ 4096) (hF : ∀ c ∈ F, c.Sublist N ∧ c ≠ [])
    (hx : H x = none) (hd : H dx = none) (hne : dx ≠ x) (q : ∀ H', Same H H' → PowAt C H' (.ref x) N (KM.mini rle F) → Q .non H') : spInit C [.ref x, .ref o, .ref s] (upd (upd H dx (.own x)) x (.ins C dx [])) Q E := by
  have s1 : Same H (upd (upd H dx (.own x)) x (.ins C dx [])) := Same.upd_after (same_upd hd) hx
  refine ⟨x, dx, o, s, N, F, rfl, upd_same, ?_, ok, ne, hl, hF, fun H' n t k hp hn ht => ?_⟩
  · rcases h3 with ⟨a, b⟩ | ⟨a, b⟩ | ⟨a, b⟩
    · exact .inl ⟨s1 _ _ a, b.mono s1⟩
    · exact .inr (.inl ⟨s1 _ _ a, b.mono s1⟩)
    · exact .inr (.inr ⟨s1 _ _ a, b.mono s1⟩)
  · exact q H' (fun b ob e => k b ob (ne_of_none e hx) (s1 b ob e)) ⟨x, dx, n, t, rfl, hp, hn, ht⟩
section
variable {P : Program} {w : World} {K : PySem.W.Frag} {mg : Str → Option Value} {base : Heap} {f : Addr} {fd : FuncData}
abbrev DApart (P w K mg base C) := Df P w K mg base CX0 8 "_law_apart" sLawApart ["_law_names_here", "_law_one"] (spApart C)
theorem scApart : FnScope ["_law_names_here", "_law_one", "_law_far", "_law_few", "_law_near1", "_law_k"] ["_law_names_here", "_law_one"] (defScope sLawApart) := ⟨rfl, rfl, rfl, by decide +kernel, rfl, by decide +kernel, by decide +kernel⟩
theorem ok_apart (F : Fun K "_law_apart" "_law_apart" sLawApart f fd) (T : Txt K mg) (Z : PwT K mg) (G_init : DInit P w K mg base Z.f (spInit Z.C)) (G_eq : DEq P w K mg base Z.C) (G_outcomes : DOut P w K mg base Z.C) (G__law_unlike : DUnlike P w K mg base Z.C) :
    FnOk P w K mg base CX0 8 f fd ["_law_names_here", "_law_one"] (spApart Z.C) := by
  refine F.ok scApart (fun vs H Q E h => ?_) (fun cdv A outer s H vs Q E hr h => ?_)
  · obtain ⟨a, u, N, M, L, rfl, _⟩ := h
    rfl
  · obtain ⟨a, u, N, M, L, rfl, hN, ok, hu, hL, q⟩ := h
    have hn1 := ok.lo
    have hn6 := ok.hi
    have hlm : (N.map V.str).length = N.length := List.length_map _
    refine ⟨_, (pss_cons (ps_set (i := 2) scApart.nd rfl (Or.inl rfl) (pe_make Z.mk_ G_init.ok (hr.mono (by decide)) rfl Z.mgC G_init.b .nil pass0 (pa_cons (pe_lc (own := [("_law_k", 5)]) (g := gName 5) (tt := tYes) rfl scApart.nd (pi_range1 (by rfl) T.b_range (pa_cons (pe_callB (call_lenK K rfl) (by rfl) T.b_len (by decide +kernel) (pa_cons (pv 0) pa_nil)) pa_nil)) (blkOk_by (own := [("_law_k", 5)]) (N := ["_law_names_here", "_law_one", "_law_far", "_law_few", "_law_near1", "_law_k"]) (sc := defScope sLawApart) (by decide +kernel)) (fun _ _ _ _ _ => pg_name (i := 5) scApart.nd rfl (Or.inl rfl)) (fun _ _ _ _ _ => pts_nil) (fun _ _ _ _ _ => (pe_op op_add_str pe_str (pe_callTy call_str_int (by rfl) T.b_str (by decide +kernel) (pa_cons (pv 5) pa_nil))))) (pa_cons (pe_lst (pa_cons (pe_tup (pa_cons pe_str pa_nil)) pa_nil)) pa_nil)))) (pss_cons (ps_set (i := 3) scApart.nd rfl (Or.inl rfl) (pe_make Z.mk_ G_init.ok (hr.mono (by decide)) rfl Z.mgC G_init.b .nil pass0 (pa_cons (pe_op op_cat (pe_slice sl_list (pv 0) (po_some pe_int) po_none) (pe_slice sl_list (pe_lst (pa_cons pe_str pa_nil)) po_none (po_some (pe_callTy call_int1 (by rfl) T.b_int (by decide +kernel) (pa_cons (pe_cmpR op_eq (pe_callB (call_lenK K rfl) (by rfl) T.b_len (by decide +kernel) (pa_cons (pv 0) pa_nil)) pe_int (nomark _)) pa_nil))))) (pa_cons (pe_lst (pa_cons (pe_callTy (call_tupleK K rfl) (by rfl) T.b_tuple (by decide +kernel) (pa_cons (pe_slice sl_list (pe_op op_cat (pv 0) (pe_lst (pa_cons pe_str pa_nil))) (po_some pe_int) (po_some pe_int)) pa_nil)) pa_nil)) pa_nil)))) (pss_cons (ps_for PassesOwn.never rfl (pi_listK K rfl (pe_lst (pa_cons (pv 2) (pa_cons (pv 3) pa_nil)))) (pg_name (i := 4) scApart.nd rfl (Or.inl rfl)) (pss_one (ps_if (PW.pt (pw_and (PW.pt (pw_or (pt_cmpR (op_eqO Z.nf G_eq.mt.at_ G_eq.mt.fn G_eq.ok (hr.mono (by decide)) G_eq.b) (pv 1) (pv 4) (nomark _)) (pw_or1 (pt_cmpR (op_eqO Z.nf G_eq.mt.at_ G_eq.mt.fn G_eq.ok (hr.mono (by decide)) G_eq.b) (pv 4) (pv 1) (nomark _))))) (pw_and1 (pt_cmpR (op_nePK K rfl hr.units) (pe_prop (pv 1) Z.cl G_outcomes.pr G_outcomes.ok (hr.mono (by decide)) G_outcomes.b .nil pass0 rfl) (pe_prop (pv 4) Z.cl G_outcomes.pr G_outcomes.ok (hr.mono (by decide)) G_outcomes.b .nil pass0 rfl) (nomark _))))) (pss_one (ps_ret pe_bl)) pss_nil))) (pss_one (ps_ret (pe_and (pe_call G__law_unlike.ok (hr.mono (by decide)) rfl G__law_unlike.m G__law_unlike.kp G__law_unlike.b .nil pass0 (pa_cons (pv 1) (pa_cons (pv 2) pa_nil))) (pe_one (pe_call G__law_unlike.ok (hr.mono (by decide)) rfl G__law_unlike.m G__law_unlike.kp G__law_unlike.b .nil pass0 (pa_cons (pv 1) (pa_cons (pv 3) pa_nil)))))))))), ?_⟩
    refine ⟨_, rfl, a, _, rfl, .inl (SqL.of hN), _, rfl, by omega, by omega, fun D hD => ?_⟩
    refine lc_range (n := (N.map V.str).length) (CI _ D fun i H acc => acc = ((List.range i).map zz).map V.str) (CI.start hD rfl) ?_ ?_
    · rintro i H1 hi ⟨z, acc, hd, hal, rfl⟩
      have ei : (0 : Int) + (i : Nat) = (i : Int) := Int.zero_add _
      refine ⟨rfl, _, rfl, _, rfl, ?_, _, _, rfl, rfl, ?_, ?_⟩
      · rw [ei]
        exact Nat.lt_of_le_of_lt (Nat.log2_le_self _) (by omega)
      · rw [ei]
        have := (num_sg (k := i) (by omega)).1
        have e1 : (numS i).length = (numS i).cps.toList.length := by rw [Array.length_toList]; rfl
        show 2 + (numS i).length ≤ _
        rw [sizeLine_eq]
        omega
      · refine CI.more hD (by rw [sizeLine_eq]; omega) z hd hal ?_
        rw [ei, List.range_succ, List.map_append, List.map_append]
        rfl
    · rintro H1 ⟨z1, acc, hd1, hal, rfl⟩
      rw [hlm] at hd1
      refine ⟨(by show 1 ≤ sizeLine; decide), fun t1 ht1 => ⟨(by show 1 ≤ sizeLine; decide), fun l1 hl1 => ?_⟩⟩
      have s2 := same_upd (o := .tup [.str "zz0"]) ht1
      have s3 := same_upd (o := .lst [.ref t1]) hl1
      have z3 := Same.trans z1 (Same.trans s2 s3)
      have hl3 : LsA (upd (upd H1 t1 (.tup [.str "zz0"])) l1 (.lst [.ref t1])) l1 [["zz0"]] := ⟨_, upd_same, .cons ⟨t1, rfl, s3 _ _ upd_same⟩ .nil⟩
      have hd3 := s3 _ _ (s2 _ _ hd1)
      generalize upd (upd H1 t1 (.tup [.str "zz0"])) l1 (.lst [.ref t1]) = H3 at z3 hl3 hd3 ⊢
      have hzz := zz_ok hn1 hn6
      have hzin : ("zz0" : Str) ∈ (List.range N.length).map zz := List.mem_map.mpr ⟨0, List.mem_range.mpr (by omega), zz0⟩
      refine fun far0 dx0 hx0 hdx0 hne0 => make_at (C := Z.C) (.inl ⟨hd3, hl3⟩) hzz (by simp) (by simp) (one_sub hzin) hx0 hdx0 hne0 fun H4 s4 hfar => ⟨rfl, ?_⟩
      clear hx0 hdx0 hne0 dx0
      generalize hgf : V.ref far0 = far at hfar ⊢
      clear hgf far0
      have hPfar := PL_mini hzz (by simp) (one_sub hzin)
      have z4 := Same.trans z3 s4
      have hN4 := z4 _ _ hN
      -- few
      refine ⟨_, rfl, _, rfl, a, _, rfl, SqL.of hN4, fun r1 hr1 => ?_⟩
      have s5 := same_upd (o := .lst (cutV (N.map V.str) (some 1) none)) hr1
      have e5 : upd H4 r1 (.lst (cutV (N.map V.str) (some 1) none)) r1 = _ := upd_same
      generalize upd H4 r1 (.lst (cutV (N.map V.str) (some 1) none)) = H5 at s5 e5 ⊢
      refine ⟨(by show 1 ≤ sizeLine; decide), fun r2 hr2 => ?_⟩
      have s6 := same_upd (o := .lst [.str "zz9"]) hr2
      have e6 : upd H5 r2 (.lst [.str "zz9"]) r2 = _ := upd_same
      generalize upd H5 r2 (.lst [.str "zz9"]) = H6 at s6 e6 ⊢
      refine ⟨_, rfl, a, _, rfl, .inl (SqL.of (s6 _ _ (s5 _ _ hN4))), rfl, .inr ⟨_, rfl, _, rfl, r2, _, rfl, SqL.of e6, fun r3 hr3 => ?_⟩⟩
      have s7 := same_upd (o := .lst (cutV [V.str "zz9"] none (some (if decide (V.int (((N.map V.str).length : Nat) : Int) = V.int 1) then 1 else 0)))) hr3
      have e7 : upd H6 r3 (.lst (cutV [V.str "zz9"] none (some (if decide (V.int (((N.map V.str).length : Nat) : Int) = V.int 1) then 1 else 0)))) r3 = _ := upd_same
      have hcl := few_cut ok
      have hcll := congrArg List.length hcl
      refine ⟨r1, r3, _, _, rfl, rfl, s7 _ _ (s6 _ _ e5), e7, ?_, fun r4 hr4 => ?_⟩
      · rw [List.length_append] at hcll
        have h2 : ((few N).map V.str).length = (few N).length := List.length_map _
        have := (few_ok ok).hi
        exact w4096 (by omega)
      rw [hcl]
      have s8 := same_upd (o := .lst ((few N).map V.str)) hr4
      have e8 : upd (upd H6 r3 (.lst (cutV [V.str "zz9"] none (some (if decide (V.int (((N.map V.str).length : Nat) : Int) = V.int 1) then 1 else 0))))) r4 (.lst ((few N).map V.str)) r4 = _ := upd_same
      have z8 := Same.trans s5 (Same.trans s6 (Same.trans s7 s8))
      generalize upd (upd H6 r3 (.lst (cutV [V.str "zz9"] none (some (if decide (V.int (((N.map V.str).length : Nat) : Int) = V.int 1) then 1 else 0))))) r4 (.lst ((few N).map V.str)) = H8 at s8 e8 z8 ⊢
      clear s5 s6 s7 s8 e5 e6 e7
      refine ⟨_, rfl, (by show 1 ≤ sizeLine; decide), fun r5 hr5 => ⟨a, r5, _, _, rfl, rfl, (same_upd hr5) _ _ (z8 _ _ hN4), upd_same, w4096 (by rw [hlm]; show N.length + 1 ≤ 4096; omega), fun r6 hr6 => ?_⟩⟩
      have s9 := same_upd (o := .lst [.str "zz9"]) hr5
      have s10 := same_upd (o := .lst (N.map V.str ++ [.str "zz9"])) hr6
      refine ⟨_, rfl, _, rfl, r6, _, rfl, SqL.of upd_same, fun r7 hr7 => ?_⟩
      have ec1 : cutV (N.map V.str ++ [V.str "zz9"]) (some 1) (some 2) = [V.str (few1 N)] := few_cut1 ok
      rw [ec1]
      have s11 := same_upd (o := .lst [.str (few1 N)]) hr7
      refine ⟨r7, _, rfl, .inl ⟨SqL.of upd_same, fun t2 ht2 => ⟨(by show 1 ≤ sizeLine; decide), fun l2 hl2 => ?_⟩⟩⟩
      have s12 := same_upd (o := .tup [.str (few1 N)]) ht2
      have s13 := same_upd (o := .lst [.ref t2]) hl2
      have z13 := Same.trans z8 (Same.trans s9 (Same.trans s10 (Same.trans s11 (Same.trans s12 s13))))
      have e13 := (Same.trans s9 (Same.trans s10 (Same.trans s11 (Same.trans s12 s13)))) _ _ e8
      have hls : LsA (upd (upd (upd (upd (upd H8 r5 (.lst [.str "zz9"])) r6 (.lst (N.map V.str ++ [.str "zz9"]))) r7 (.lst [.str (few1 N)])) t2 (.tup [.str (few1 N)])) l2 (.lst [.ref t2])) l2 [[few1 N]] := ⟨_, upd_same, .cons ⟨t2, rfl, s13 _ _ upd_same⟩ .nil⟩
      generalize upd (upd (upd (upd (upd H8 r5 (.lst [.str "zz9"])) r6 (.lst (N.map V.str ++ [.str "zz9"]))) r7 (.lst [.str (few1 N)])) t2 (.tup [.str (few1 N)])) l2 (.lst [.ref t2]) = H13 at z13 e13 hls ⊢
      refine fun fw0 dx0 hx0 hdx0 hne0 => make_at (C := Z.C) (.inl ⟨e13, hls⟩) (few_ok ok) (by simp) (by simp) (one_sub (few1_in ok)) hx0 hdx0 hne0 fun H14 s14 hfew => ⟨rfl, ?_⟩
      clear hx0 hdx0 hne0 dx0
      generalize hgf : V.ref fw0 = fw at hfew ⊢
      clear hgf fw0
      have hPfew := PL_mini (few_ok ok) (by simp) (one_sub (few1_in ok))
      have hfar14 := (hfar.mono z13).mono s14
      have hu14 := ((hu.mono z4).mono z13).mono s14
      have z14 := Same.trans z4 (Same.trans z13 s14)
      clear hfar hls e13 s9 s10 s11 s12 s13
      -- the walk
      refine ⟨_, rfl, _, rfl, (by show 2 ≤ sizeLine; decide), fun r9 hr9 => ?_⟩
      have s15 := same_upd (o := .lst [far, fw]) hr9
      refine ⟨r9, rfl, ⟨_, SqL.of upd_same⟩, for_list (K := K) (xs := [far, fw]) (fun i σ H' => (∃ v, σ = [some (.ref a), some u, some far, some fw, v, none]) ∧ Same (upd H14 r9 (.lst [far, fw])) H') ⟨⟨none, rfl⟩, Same.refl _⟩ (fun i σ H' _ z => SqL.of (z.2 _ _ upd_same)) ?_ ?_⟩
      · rintro i y σ H15 hi ⟨⟨v, rfl⟩, z15⟩
        have hy : ∃ N2 L2, PowAt Z.C H14 y N2 L2 := by
          match i, hi with
          | 0, hi => cases hi; exact ⟨_, _, hfar14⟩
          | 1, hi => cases hi; exact ⟨_, _, hfew⟩
        obtain ⟨N2, L2, hy⟩ := hy
        have hy15 := (hy.mono s15).mono z15
        have hu15 := (hu14.mono s15).mono z15
        have hy0 := hy15
        have hu0 := hu15
        obtain ⟨p, dx, n, t, rfl, hp, hn, ht⟩ := hu15
        obtain ⟨p', dx', n', t', rfl, hp', hn', ht'⟩ := hy15
        refine ⟨_, rfl, _, rfl, p, dx, _, p', dx', _, rfl, rfl, hp, hp', _, _, M, N2, L, L2, rfl, hu0, hy0, ⟨_, rfl, ?_⟩⟩
        by_cases hM : M = N2
        · by_cases hLL : L = L2
          · rw [decide_eq_true hM, decide_eq_true hLL]
            refine iteT (iteT ⟨_, rfl, p, dx, _, rfl, hp, p, dx, _, _, rfl, hp, pwf_names _ _, _, rfl, p', dx', _, rfl, hp', p', dx', _, _, rfl, hp', pwf_names _ _, neT hn.ts hn'.ts ⟨_, rfl, ?_⟩⟩)
            rw [decide_eq_true hM]
            exact ⟨⟨_, rfl⟩, z15⟩
          · rw [decide_eq_true hM, decide_eq_false hLL]
            refine iteF ⟨_, rfl, _, rfl, p', dx', _, p, dx, _, rfl, rfl, hp', hp, _, _, N2, M, L2, L, rfl, hy0, hu0, ⟨_, rfl, ?_⟩⟩
            rw [decide_eq_false (fun e : L2 = L => hLL e.symm), Bool.and_false]
            exact ⟨⟨_, rfl⟩, z15⟩
        · rw [decide_eq_false hM]
          refine iteF ⟨_, rfl, _, rfl, p', dx', _, p, dx, _, rfl, rfl, hp', hp, _, _, N2, M, L2, L, rfl, hy0, hu0, ⟨_, rfl, ?_⟩⟩
          rw [decide_eq_false (fun e : N2 = M => hM e.symm), Bool.false_and]
          exact ⟨⟨_, rfl⟩, z15⟩
      · rintro σ H15 ⟨⟨v, rfl⟩, z15⟩
        have hz15 := Same.trans s15 z15
        refine ⟨_, rfl, _, rfl, _, _, _, _, _, _, rfl, hu14.mono hz15, hfar14.mono hz15, hL, hPfar, fun H16 s16 => ⟨true, rfl, iteT ⟨_, rfl, _, rfl, _, _, _, _, _, _, rfl, (hu14.mono hz15).mono s16, (hfew.mono hz15).mono s16, hL, hPfew, fun H17 s17 => ?_⟩⟩⟩
        exact q _ (Same.trans z14 (Same.trans hz15 (Same.trans s16 s17)))
end
end L2.K25

namespace L2.K25
open PySem PySem.Spec PyProof.Rows
/-! the plain law of families -/
structure FamOk (N : List Str) (D : List (List Str)) : Prop where
  ne : D ≠ []
  sb : ∀ c ∈ D, c.Sublist N ∧ c ≠ []
  len : D.length ≤ 4096
section
variable {N : List Str} {D F F' : List (List Str)} {P : List Str → Bool}
theorem G_subs (P : List Str → Bool) : ∀ c ∈ G N P, c.Sublist N := fun c hc => (KM.gre_sub hc).1
theorem FamOk.subs (h : FamOk N D) : ∀ c ∈ D, c.Sublist N := fun c hc => (h.sb c hc).1
theorem FamOk.le (ok : NmOk N) (h : FamOk N D) : ∀ c ∈ D, c.length ≤ 64 := fun c hc => by
  have := (h.subs c hc).length_le
  have := ok.hi
  omega
theorem fam_all (h : FamOk N D) : KM.forced D N = true := by
  obtain ⟨c, hc⟩ := List.exists_mem_of_ne_nil D h.ne
  exact KM.forced_iff.mpr ⟨c, hc, KM.sub_iff.mpr fun x hx => (h.subs c hc).subset hx⟩
theorem fam_nil (h : FamOk N D) : KM.forced D [] = false := by
  cases e : KM.forced D [] with
  | false => rfl
  | true =>
    obtain ⟨c, hc, hs⟩ := KM.forced_iff.mp e
    have hn := (h.sb c hc).2
    cases c with
    | nil => exact absurd rfl hn
    | cons x r => exact absurd (KM.sub_iff.mp hs x List.mem_cons_self) (by simp)
theorem fam_pl (ok : NmOk N) (h : FamOk N D) : PL N (G N (KM.forced D)) := PL.gre ok (KM.up_forced N D) (fam_all h) (fam_nil h)
theorem fam_mini (ok : NmOk N) (h : FamOk N D) : KM.mini rle D = G N (KM.forced D) := KM.mini_gre rk_ok ok.nd h.subs
theorem PL.fam {L : List (List Str)} (h : PL N L) : FamOk N L := ⟨h.ne, h.sb, by have := h.len; omega⟩
theorem forced_G (hP : KM.Up N P) {c : List Str} (hc : c.Sublist N) : KM.forced (G N P) c = P c := KM.forced_gre hP hc
theorem GG (hP : KM.Up N P) : G N (KM.forced (G N P)) = G N P := KM.gre_congr fun c hc => forced_G hP hc
theorem forcedF (c : List Str) (hc : c.Sublist N) : KM.forced (G N (KM.forced D)) c = KM.forced D c := forced_G (KM.up_forced N D) hc
theorem meetsF (h : FamOk N D) : ∀ c, c.Sublist N → KM.meets (G N (KM.forced D)) c = KM.meets D c := fun c hc => by
  rw [KM.meets_dual (G_subs _), KM.meets_dual h.subs]
  unfold KM.dual
  rw [forcedF _ (KM.cpl_sub N c)]
theorem meets_G (h : FamOk N D) : G N (KM.meets (G N (KM.forced D))) = G N (KM.meets D) := KM.gre_congr (meetsF h)
theorem op_G (op : Bool → Bool → Bool) : (G N fun c => op (KM.forced (G N (KM.forced F)) c) (KM.forced (G N (KM.forced F')) c)) = G N fun c => op (KM.forced F c) (KM.forced F' c) :=
  KM.gre_congr fun c hc => by rw [forcedF c hc, forcedF c hc]
theorem meets_pl (ok : NmOk N) (h : FamOk N D) : PL N (G N (KM.meets D)) := by
  rw [← meets_G h]
  exact (fam_pl ok h).meets
theorem or_pl (ok : NmOk N) (h : FamOk N F) (h' : FamOk N F') : PL N (G N fun c => KM.forced F c || KM.forced F' c) := by
  have := (fam_pl ok h).op (fam_pl ok h') (op := or) rfl rfl (fun a b a' b' h1 h2 h3 => by
    cases a <;> cases b <;> cases a' <;> cases b' <;> simp_all)
  rw [op_G or] at this
  exact this
theorem and_pl (ok : NmOk N) (h : FamOk N F) (h' : FamOk N F') : PL N (G N fun c => KM.forced F c && KM.forced F' c) := by
  have := (fam_pl ok h).op (fam_pl ok h') (op := and) rfl rfl (fun a b a' b' h1 h2 h3 => by
    cases a <;> cases b <;> cases a' <;> cases b' <;> simp_all)
  rw [op_G and] at this
  exact this
theorem up_or : KM.Up N fun c => KM.forced F c || KM.forced F' c := fun c d hc hd hs q => by
  simp only [Bool.or_eq_true] at q ⊢
  exact q.imp (KM.forced_up hs) (KM.forced_up hs)
theorem up_and : KM.Up N fun c => KM.forced F c && KM.forced F' c := fun c d hc hd hs q => by
  simp only [Bool.and_eq_true] at q ⊢
  exact ⟨KM.forced_up hs q.1, KM.forced_up hs q.2⟩
theorem covers_G : (G N (KM.forced F')).all (KM.forced (G N (KM.forced D))) = (KM.allS rle N).all fun c => !(KM.forced F' c) || KM.forced D c := by
  rw [KM.covers_all (rle := rle) (N := N) (G_subs _) _ (KM.up_forced N _)]
  rw [Bool.eq_iff_iff, List.all_eq_true, List.all_eq_true]
  refine forall_congr' fun c => forall_congr' fun hc => ?_
  have hs := KM.mem_allS.mp hc
  show (!(KM.forced (G N (KM.forced F')) c) || KM.forced (G N (KM.forced D)) c) = true ↔ _
  rw [forcedF c hs, forcedF c hs]
/-- a dual's dual -/
theorem dual_dual (ok : NmOk N) (h : FamOk N D) : G N (KM.meets (G N (KM.meets D))) = G N (KM.forced D) := KM.gre_congr fun c hc => by
  rw [KM.meets_dual (G_subs _)]
  unfold KM.dual
  rw [forced_G (up_meets h.subs) (KM.cpl_sub N c), KM.meets_dual h.subs]
  unfold KM.dual
  rw [Bool.not_not, KM.cpl_cpl ok.nd hc]
/-- the dual of a joining -/
theorem meets_dualG (hP : KM.Up N P) (c : List Str) (hc : c.Sublist N) : KM.meets (G N P) c = KM.dual N P c := by
  rw [KM.meets_dual (G_subs _)]
  unfold KM.dual
  rw [forced_G hP (KM.cpl_sub N c)]
theorem up_meetsD (h : FamOk N D) : KM.Up N (KM.meets D) := up_meets h.subs
/-- ~(a | b) = ~a & ~b -/
theorem mor1 (h : FamOk N F) (h' : FamOk N F') : G N (KM.meets (G N fun c => KM.forced F c || KM.forced F' c)) = G N fun c => KM.forced (G N (KM.meets F)) c && KM.forced (G N (KM.meets F')) c := KM.gre_congr fun c hc => by
  rw [meets_dualG up_or c hc, forced_G (up_meetsD h) hc, forced_G (up_meetsD h') hc, KM.meets_dual h.subs, KM.meets_dual h'.subs]
  unfold KM.dual
  rw [Bool.not_or]
theorem mor2 (h : FamOk N F) (h' : FamOk N F') : G N (KM.meets (G N fun c => KM.forced F c && KM.forced F' c)) = G N fun c => KM.forced (G N (KM.meets F)) c || KM.forced (G N (KM.meets F')) c := KM.gre_congr fun c hc => by
  rw [meets_dualG up_and c hc, forced_G (up_meetsD h) hc, forced_G (up_meetsD h') hc, KM.meets_dual h.subs, KM.meets_dual h'.subs]
  unfold KM.dual
  rw [Bool.not_and]
end
section
variable {N : List Str} {L L' : List (List Str)}
/-- in terms of powers: L = G N (forced L) -/
structure Pw (N : List Str) (L : List (List Str)) : Prop where
  pl : PL N L
  gg : G N (KM.forced L) = L
theorem Pw.fam {F : List (List Str)} (ok : NmOk N) (h : FamOk N F) : Pw N (G N (KM.forced F)) := ⟨fam_pl ok h, GG (KM.up_forced N F)⟩
theorem Pw.meets (h : Pw N L) : Pw N (G N (KM.meets L)) := ⟨h.pl.meets, GG (up_meets h.pl.subs)⟩
theorem Pw.or (h : Pw N L) (h' : Pw N L') : Pw N (G N fun c => KM.forced L c || KM.forced L' c) := ⟨or_pl h.pl.ok h.pl.fam h'.pl.fam, GG up_or⟩
theorem Pw.and (h : Pw N L) (h' : Pw N L') : Pw N (G N fun c => KM.forced L c && KM.forced L' c) := ⟨and_pl h.pl.ok h.pl.fam h'.pl.fam, GG up_and⟩
theorem Pw.inv2 (h : Pw N L) : G N (KM.meets (G N (KM.meets L))) = L := by rw [dual_dual h.pl.ok h.pl.fam, h.gg]
end
end L2.K25

namespace L2.K25
open PySem PySem.Spec PyProof.Rows
/-! _law_forces_right -/
theorem LsA.updL {H : Hp} {D a : Addr} {F : List (List Str)} {xs ys : List V} (e : H D = some (.lst xs)) (ne : a ≠ D) (h : LsA H a F) : LsA (upd H D (.lst ys)) a F := by
  obtain ⟨vs, h1, h2⟩ := h
  exact ⟨vs, by rw [upd_ne ne]; exact h1, h2.updL e⟩
section
variable {H H' H0' : Hp} {s : Addr} {F : List (List Str)} {C : Addr} {v : V} {N : List Str} {L : List (List Str)} {c : List Str} {vs : List V}
theorem TS.lift (a3 : ∀ a xs, H' a = some (.tup xs) → H0' a = some (.tup xs)) (h : TS H' v c) : TS H0' v c := let ⟨a, e, h⟩ := h; ⟨a, e, a3 _ _ h⟩
theorem TSs.lift (a3 : ∀ a xs, H' a = some (.tup xs) → H0' a = some (.tup xs)) (h : TSs H' vs F) : TSs H0' vs F := Paired.mapP h fun _ _ r => r.lift a3
theorem LsA.lift (a3 : ∀ a xs, H' a = some (.tup xs) → H0' a = some (.tup xs)) (a5 : ∀ a o, H a = none → H' a = some o → H0' a = some o) (hn : H s = none) (h : LsA H' s F) : LsA H0' s F := by
  obtain ⟨vs, h1, h2⟩ := h
  exact ⟨vs, a5 _ _ hn h1, h2.lift a3⟩
theorem PowAt.lift (a3 : ∀ a xs, H' a = some (.tup xs) → H0' a = some (.tup xs)) (a4 : ∀ a C dx fs, H' a = some (.ins C dx fs) → H0' a = some (.ins C dx fs)) (h : PowAt C H' v N L) : PowAt C H0' v N L := by
  obtain ⟨p, dx, n, t, e, hp, hn, us, ht, hus⟩ := h
  exact ⟨p, dx, n, t, e, a4 _ _ _ _ hp, a3 _ _ hn, us, a3 _ _ ht, hus.lift a3⟩
end
/-- a power and its family -/
def MD (C : Addr) (H : Hp) (N : List Str) (v s : V) : Prop := ∃ a D, s = .ref a ∧ LsA H a D ∧ FamOk N D ∧ PowAt C H v N (G N (KM.forced D))
theorem MD.mono {C : Addr} {H H' : Hp} {N : List Str} {v s : V} (sm : Same H H') (h : MD C H N v s) : MD C H' N v s := by
  obtain ⟨a, D, e, h1, h2, h3⟩ := h
  exact ⟨a, D, e, h1.mono sm, h2, h3.mono sm⟩
theorem MDs.get {C : Addr} {H : Hp} {N : List Str} : ∀ {vs ss : List V} {i : Nat}, Paired (MD C H N) vs ss → i < vs.length → ∃ v s, vs[i]? = some v ∧ ss[i]? = some s ∧ MD C H N v s
  | _, _, _, .nil, h => by simp at h
  | _, _, 0, .cons r _, _ => ⟨_, _, rfl, rfl, r⟩
  | _, _, i + 1, .cons _ t, h => by
    obtain ⟨v, s, h1, h2, h3⟩ := MDs.get (i := i) t (by simpa using h)
    exact ⟨v, s, by simpa using h1, by simpa using h2, h3⟩
def spRight (C : Addr) : Sp := fun vs H Q _ => ∃ (st a fa pr f1 f2 : Addr) (u v : V) (N : List Str) (F1 F2 : List (List Str)) (m : Nat) (H0 : Hp), vs = [.ref st, .ref a, .ref fa, .ref pr] ∧ StAt H0 H st m ∧ m ≤ 50000 ∧ LNm H0 a N ∧ NmOk N ∧
  H0 fa = some (.lst [.ref f1, .ref f2]) ∧ LsA H0 f1 F1 ∧ LsA H0 f2 F2 ∧ FamOk N F1 ∧ FamOk N F2 ∧ H0 pr = some (.tup [u, v]) ∧ PowAt C H0 u N (G N (KM.forced F1)) ∧ PowAt C H0 v N (G N (KM.forced F2)) ∧
  ∀ H' H0', StAt H0' H' st (m + 1000) → Same H0 H0' → Q (.bl true) H'
theorem fc_ : ¬ (("forces" : Str) = "least") := by decide +kernel
section
variable {P : Program} {w : World} {K : PySem.W.Frag} {mg : Str → Option Value} {base : Heap} {f : Addr} {fd : FuncData}
abbrev DRight (P w K mg base C) := Df P w K mg base CX0 7 "_law_forces_right" sLawForcesRight ["_law_state", "_law_names_here", "_law_families_here", "_law_pair"] (spRight C)
theorem scRight : FnScope ["_law_state", "_law_names_here", "_law_families_here", "_law_pair", "_law_one", "_law_two", "_law_dual_here", "_law_made", "_law_both", "_law_due", "_law_turn", "_law_k", "_law_least_here", "_law_chosen", "_law_told_here"] ["_law_state", "_law_names_here", "_law_families_here", "_law_pair"] (defScope sLawForcesRight) := ⟨rfl, rfl, rfl, by decide +kernel, rfl, by decide +kernel, by decide +kernel⟩
theorem passAt0 {X : Cx} {σ : L2.St} : PassesAt CX0 X σ E0 := fun _ _ _ _ _ _ h => h.elim
theorem ok_right (F : Fun K "_law_forces_right" "_law_forces_right" sLawForcesRight f fd) (T : Txt K mg) (Z : PwT K mg) (Y : ExT K mg) (G_or : DOr P w K mg base Z.C Y.C) (G_and : DAnd P w K mg base Z.C Y.C) (G_invert : DInv P w K mg base Z.C) (G_covers : DCovers P w K mg base Z.C Y.C)
    (G_forces : DForces P w K mg base Z.C) (G_even : DEven P w K mg base Z.C) (G_outcomes : DOut P w K mg base Z.C) (G_sets : DSets P w K mg base Z.C) (G__law_dual : DDualL P w K mg base) (G__law_joined : DJoined P w K mg base) (G__law_least : DLeast P w K mg base)
    (G__law_covers : DCoversL P w K mg base) (G__law_sets : DSetsL P w K mg base) (G__law_forced : DForcedL P w K mg base) (G__law_spots : DSpots P w K mg base) :
    FnOk P w K mg base CX0 7 f fd ["_law_state", "_law_names_here", "_law_families_here", "_law_pair"] (spRight Z.C) := by
  refine F.ok scRight (fun vs H Q E h => ?_) (fun cdv A outer s H vs Q E hr h => ?_)
  · obtain ⟨st, a, fa, pr, f1, f2, u, v, N, F1, F2, m, H0, rfl, _⟩ := h
    rfl
  · obtain ⟨st, a, fa, pr, f1, f2, u, v, N, F1, F2, m, H0, rfl, hS, hm, hN0, ok, hfa0, hF10, hF20, ok1, ok2, hpr0, hu0, hv0, q⟩ := h
    have hN := hS.1 _ _ hN0
    have hfa := hS.1 _ _ hfa0
    have hF1 := hF10.mono hS.1
    have hF2 := hF20.mono hS.1
    have hpr := hS.1 _ _ hpr0
    have hu := hu0.mono hS.1
    have hv := hv0.mono hS.1
    have pu := fam_pl ok ok1
    have pv2 := fam_pl ok ok2
    have hn6 := ok.hi
    refine ⟨_, (pss_cons (ps_asg (pv 3) (pg_tup rfl (pgs_cons (pg_name (i := 4) scRight.nd rfl (Or.inl rfl)) (pgs_cons (pg_name (i := 5) scRight.nd rfl (Or.inl rfl)) pgs_nil)))) (pss_cons (ps_set (i := 6) scRight.nd rfl (Or.inl rfl) (pe_call G__law_dual.ok (hr.mono (by decide)) rfl G__law_dual.m G__law_dual.kp G__law_dual.b .nil pass0 (pa_cons (pv 1) (pa_cons (pe_ix (ix_listK K rfl) (pv 2) pe_int (fun _ _ => rfl)) pa_nil)))) (pss_cons (ps_set (i := 7) scRight.nd rfl (Or.inl rfl) (pe_lst (pa_cons (pv 4) (pa_cons (pe_binS (E := fun _ => E0) Z.sf G_or.mt.at_ G_or.mt.fn G_or.ok (hr.mono (by decide)) G_or.b (fun _ => passAtL) (pv 4) (pv 5)) (pa_cons (pe_binS (E := fun _ => E0) Z.sf G_and.mt.at_ G_and.mt.fn G_and.ok (hr.mono (by decide)) G_and.b (fun _ => passAtL) (pv 4) (pv 5)) (pa_cons (pe_invS (E := fun _ => E0) G_invert.mt.at_ G_invert.mt.fn G_invert.ok (hr.mono (by decide)) G_invert.b (fun _ => passAt0) (pv 4)) (pa_cons (pe_invS (E := fun _ => E0) G_invert.mt.at_ G_invert.mt.fn G_invert.ok (hr.mono (by decide)) G_invert.b (fun _ => passAt0) (pv 5)) (pa_cons (pv 4) pa_nil)))))))) (pss_cons (ps_setLc (i := 8) (own := [("_law_told_here", 14)]) (g := gName 14) (tt := tYes) rfl scRight.nd rfl rfl (sw_true rfl rfl rfl (by decide +kernel)) (pi_listK K rfl (pe_lst (pa_cons pe_bl (pa_cons pe_bl pa_nil)))) (blkOk_by (own := [("_law_told_here", 14)]) (N := ["_law_state", "_law_names_here", "_law_families_here", "_law_pair", "_law_one", "_law_two", "_law_dual_here", "_law_made", "_law_both", "_law_due", "_law_turn", "_law_k", "_law_least_here", "_law_chosen", "_law_told_here"]) (sc := defScope sLawForcesRight) (by decide +kernel)) (fun _ _ _ _ _ => pg_name (i := 14) scRight.nd rfl (Or.inl rfl)) (fun _ _ _ _ _ => pts_nil) (fun _ _ _ _ _ => (pe_callTy (call_listK K rfl) (by rfl) T.b_list (by decide +kernel) (pa_cons (pe_call G__law_joined.ok (hr.mono (by decide)) rfl G__law_joined.m G__law_joined.kp G__law_joined.b .nil pass0 (pa_cons (pv 1) (pa_cons (pe_ix (ix_listK K rfl) (pv 2) pe_int (fun _ _ => rfl)) (pa_cons (pe_ix (ix_listK K rfl) (pv 2) pe_int (fun _ _ => rfl)) (pa_cons (pv 14) pa_nil))))) pa_nil)))) (pss_cons (ps_set (i := 9) scRight.nd rfl (Or.inl rfl) (pe_lst (pa_cons (pe_ix (ix_listK K rfl) (pv 2) pe_int (fun _ _ => rfl)) (pa_cons (pe_ix (ix_listK K rfl) (pv 8) pe_int (fun _ _ => rfl)) (pa_cons (pe_ix (ix_listK K rfl) (pv 8) pe_int (fun _ _ => rfl)) (pa_cons (pv 6) (pa_cons (pe_call G__law_dual.ok (hr.mono (by decide)) rfl G__law_dual.m G__law_dual.kp G__law_dual.b .nil pass0 (pa_cons (pv 1) (pa_cons (pe_ix (ix_listK K rfl) (pv 2) pe_int (fun _ _ => rfl)) pa_nil))) (pa_cons (pe_ix (ix_listK K rfl) (pv 2) pe_int (fun _ _ => rfl)) pa_nil)))))))) (pss_cons (ps_for PassesOwn.never rfl (pi_range1 (by rfl) T.b_range (pa_cons pe_int pa_nil)) (pg_name (i := 10) scRight.nd rfl (Or.inl rfl)) (pss_one (ps_for PassesOwn.never rfl (pi_listK K rfl (pe_call G__law_spots.ok (hr.mono (by decide)) rfl G__law_spots.m G__law_spots.kp G__law_spots.b .nil pass0 (pa_cons (pv 0) (pa_cons (pe_callB (call_lenK K rfl) (by rfl) T.b_len (by decide +kernel) (pa_cons (pv 7) pa_nil)) pa_nil)))) (pg_name (i := 11) scRight.nd rfl (Or.inl rfl)) (pss_cons (ps_set (i := 12) scRight.nd rfl (Or.inl rfl) (pe_call G__law_least.ok (hr.mono (by decide)) rfl G__law_least.m G__law_least.kp G__law_least.b .nil pass0 (pa_cons (pv 1) (pa_cons (pe_ix (ix_listK K rfl) (pv 9) (pv 11) (fun _ _ => rfl)) pa_nil)))) (pss_cons (ps_if (PW.pt (pw_or (pt_cmpR (op_nePK K rfl hr.units) (pe_prop (pe_ix (ix_listK K rfl) (pv 7) (pv 11) (fun _ _ => rfl)) Z.cl G_outcomes.pr G_outcomes.ok (hr.mono (by decide)) G_outcomes.b .nil pass0 rfl) (pe_callTy (call_tupleK K rfl) (by rfl) T.b_tuple (by decide +kernel) (pa_cons (pv 1) pa_nil)) (nomark _)) (pw_or1 (pt_cmpR (op_nePK K rfl hr.units) (pe_prop (pe_ix (ix_listK K rfl) (pv 7) (pv 11) (fun _ _ => rfl)) Z.cl G_sets.pr G_sets.ok (hr.mono (by decide)) G_sets.b .nil pass0 rfl) (pe_callTy (call_tupleK K rfl) (by rfl) T.b_tuple (by decide +kernel) (pa_cons (pv 12) pa_nil)) (nomark _))))) (pss_one (ps_ret pe_bl)) pss_nil) (pss_cons (ps_if (pt_cmpR op_ne (pe_prop (pe_ix (ix_listK K rfl) (pv 7) (pv 11) (fun _ _ => rfl)) Z.cl G_even.pr G_even.ok (hr.mono (by decide)) G_even.b .nil pass0 rfl) (pe_cmpR (op_eqPK K rfl hr.units) (pe_call G__law_dual.ok (hr.mono (by decide)) rfl G__law_dual.m G__law_dual.kp G__law_dual.b .nil pass0 (pa_cons (pv 1) (pa_cons (pe_ix (ix_listK K rfl) (pv 9) (pv 11) (fun _ _ => rfl)) pa_nil))) (pv 12) (nomark _)) (nomark _)) (pss_one (ps_ret pe_bl)) pss_nil) (pss_cons (ps_for PassesOwn.never rfl (pi_listK K rfl (pe_call G__law_sets.ok (hr.mono (by decide)) rfl G__law_sets.m G__law_sets.kp G__law_sets.b .nil pass0 (pa_cons (pv 1) pa_nil))) (pg_name (i := 13) scRight.nd rfl (Or.inl rfl)) (pss_one (ps_if (pt_cmpR op_ne (pe_meth (pe_ix (ix_listK K rfl) (pv 7) (pv 11) (fun _ _ => rfl)) Z.cl G_forces.mt G_forces.ok (hr.mono (by decide)) G_forces.b .nil pass0 (pa_cons (pv 13) pa_nil)) (pe_call G__law_forced.ok (hr.mono (by decide)) rfl G__law_forced.m G__law_forced.kp G__law_forced.b .nil pass0 (pa_cons (pe_ix (ix_listK K rfl) (pv 9) (pv 11) (fun _ _ => rfl)) (pa_cons (pv 13) pa_nil))) (nomark _)) (pss_one (ps_ret pe_bl)) pss_nil))) (pss_one (ps_if (pt_cmpR op_ne (pe_meth (pe_ix (ix_listK K rfl) (pv 7) (pv 11) (fun _ _ => rfl)) Z.cl G_covers.mt G_covers.ok (hr.mono (by decide)) G_covers.b .nil passL (pa_cons (pv 5) pa_nil)) (pe_call G__law_covers.ok (hr.mono (by decide)) rfl G__law_covers.m G__law_covers.kp G__law_covers.b .nil pass0 (pa_cons (pv 1) (pa_cons (pe_ix (ix_listK K rfl) (pv 9) (pv 11) (fun _ _ => rfl)) (pa_cons (pe_ix (ix_listK K rfl) (pv 2) pe_int (fun _ _ => rfl)) pa_nil)))) (nomark _)) (pss_one (ps_ret pe_bl)) pss_nil))))))))) (pss_one (ps_ret pe_bl)))))))), ?_⟩
    refine ⟨_, rfl, pr, _, rfl, SqT.of hpr, rfl, _, _, rfl, _, _, rfl, rfl, ?_⟩
    refine ⟨_, rfl, _, rfl, fa, _, 0, _, rfl, rfl, SqL.of hfa, at0, a, f1, N, F1, rfl, hN, hF1, hn6, ok1.len, ok1.le ok, fun H1 dl s1 hdl hDL => ?_⟩
    -- made
    obtain ⟨p, dx, n, t, eu, hp, hn, ht⟩ := id hu
    obtain ⟨p', dx', n', t', ev, hp', hn', ht'⟩ := id hv
    subst eu
    subst ev
    refine ⟨_, rfl, _, rfl, _, rfl, p, dx, _, p', dx', _, rfl, rfl, s1 _ _ hp, s1 _ _ hp', _, _, N, N, _, _, rfl, hu.mono s1, hv.mono s1, pu, pv2, fun _ H2 w1 s2 hw1 => ?_, fun ne => absurd rfl ne⟩
    rw [op_G or] at hw1
    have z2 := Same.trans s1 s2
    refine ⟨_, rfl, _, rfl, p, dx, _, p', dx', _, rfl, rfl, z2 _ _ hp, z2 _ _ hp', _, _, N, N, _, _, rfl, hu.mono z2, hv.mono z2, pu, pv2, fun _ H3 w2 s3 hw2 => ?_, fun ne => absurd rfl ne⟩
    rw [op_G and] at hw2
    have z3 := Same.trans z2 s3
    refine ⟨_, rfl, p, dx, _, rfl, z3 _ _ hp, _, N, _, rfl, hu.mono z3, pu, fun H4 w3 s4 hw3 => ?_⟩
    rw [meets_G ok1] at hw3
    have z4 := Same.trans z3 s4
    refine ⟨_, rfl, p', dx', _, rfl, z4 _ _ hp', _, N, _, rfl, hv.mono z4, pv2, fun H5 w4 s5 hw4 => ⟨_, rfl, (by show 6 ≤ sizeLine; decide), fun rm hrm => ?_⟩⟩
    rw [meets_G ok2] at hw4
    have z5 := Same.trans z4 s5
    have s6 := same_upd (o := .lst [.ref p, w1, w2, w3, w4, .ref p]) hrm
    have hrm0 := z5.free hrm
    have em : upd H5 rm (.lst [.ref p, w1, w2, w3, w4, .ref p]) rm = some (.lst [.ref p, w1, w2, w3, w4, .ref p]) := upd_same
    have hw1 := (((hw1.mono s3).mono s4).mono s5).mono s6
    have hw2 := ((hw2.mono s4).mono s5).mono s6
    have hw3 := (hw3.mono s5).mono s6
    have hw4 := hw4.mono s6
    have hDL := ((((hDL.mono s2).mono s3).mono s4).mono s5).mono s6
    have z6 := Same.trans z5 s6
    generalize upd H5 rm (.lst [.ref p, w1, w2, w3, w4, .ref p]) = H6 at em hw1 hw2 hw3 hw4 hDL z6 ⊢
    clear s1 s2 s3 s4 s5 s6 z2 z3 z4 z5 hrm
    -- both
    refine ⟨(by show 2 ≤ sizeLine; decide), fun r0 hr0 => ?_⟩
    have s7 := same_upd (o := .lst [.bl false, .bl true]) hr0
    have e0 : upd H6 r0 (.lst [.bl false, .bl true]) r0 = some (.lst [.bl false, .bl true]) := upd_same
    have z7 := Same.trans z6 s7
    have em7 := s7 _ _ em
    have hw1 := hw1.mono s7
    have hw2 := hw2.mono s7
    have hw3 := hw3.mono s7
    have hw4 := hw4.mono s7
    have hDL := hDL.mono s7
    generalize upd H6 r0 (.lst [.bl false, .bl true]) = H7 at e0 z7 em7 hw1 hw2 hw3 hw4 hDL ⊢
    clear s7
    refine ⟨r0, rfl, ⟨_, SqL.of e0⟩, fun D hD => ?_⟩
    refine lc_list (K := K) (xs := [.bl false, .bl true]) (CI _ D fun i H8 acc => ∃ ls : List Addr, acc = ls.map V.ref ∧ ls.length = i ∧ ∀ j l, ls[j]? = some l → l ≠ D ∧ H7 l = none ∧ LsA H8 l (G N fun c => both (decide (j = 1)) (KM.forced F1 c) (KM.forced F2 c)))
      (CI.start hD ⟨[], rfl, rfl, fun j l h => by simp at h⟩) (fun i H8 _ z => SqL.of (z.1 _ _ e0)) ?_ ?_
    · rintro i x H8 hi ⟨z8, acc, hD8, hal, ls, rfl, hl, hls⟩
      obtain ⟨b, rfl, hb⟩ : ∃ b, x = .bl b ∧ b = decide (i = 1) := by
        match i, hi with
        | 0, hi => cases hi; exact ⟨_, rfl, rfl⟩
        | 1, hi => cases hi; exact ⟨_, rfl, rfl⟩
      have z78 := Same.trans z7 z8
      refine ⟨rfl, _, rfl, _, rfl, fa, _, 0, _, rfl, rfl, SqL.of (z78 _ _ hfa), at0, _, rfl, fa, _, 1, _, rfl, rfl, SqL.of (z78 _ _ hfa), at1, _, rfl, a, f1, f2, N, F1, F2, b, rfl, z78 _ _ hN, hF1.mono z78, hF2.mono z78, hn6, ok1.le ok, ok2.le ok, fun H9 tq s9 ⟨us, htq, hus⟩ => ?_⟩
      refine ⟨tq, us, rfl, .inr (SqT.of htq), fun l hl9 => ?_⟩
      have s10 := same_upd (o := .lst us) hl9
      have s810 := Same.trans s9 s10
      have hDn := s810 _ _ hD8
      have hnl : l ≠ D := (ne_of_none (s9 _ _ hD8) hl9).symm
      have hil : i < 2 := (List.getElem?_eq_some_iff.mp hi).1
      refine CI.more hD (by rw [sizeLine_eq]; omega) (Same.trans z8 s810) hDn hal ⟨ls ++ [l], by rw [List.map_append]; rfl, by rw [List.length_append, hl]; rfl, fun j k hk => ?_⟩
      by_cases hj : j < ls.length
      · rw [List.getElem?_append_left hj] at hk
        obtain ⟨g1, g2, g3⟩ := hls j k hk
        exact ⟨g1, g2, (g3.mono s810).updL hDn g1⟩
      · have hj2 : j = ls.length := by
          have := (List.getElem?_eq_some_iff.mp hk).1
          rw [List.length_append, List.length_singleton] at this
          omega
        subst hj2
        rw [List.getElem?_append_right (Nat.le_refl _), Nat.sub_self] at hk
        cases hk
        refine ⟨hnl, (Same.trans z8 s9).free hl9, LsA.updL hDn hnl ?_⟩
        rw [hl, ← hb]
        exact ⟨us, upd_same, hus.mono s10⟩
    · rintro H8 ⟨z8, acc, hD8, hal, ls, rfl, hl, hls⟩
      obtain ⟨b1, b2, rfl⟩ : ∃ b1 b2, ls = [b1, b2] := by
        match ls, hl with
        | [x, y], _ => exact ⟨x, y, rfl⟩
      obtain ⟨_, hb1n, hB1⟩ := hls 0 b1 rfl
      obtain ⟨_, hb2n, hB2⟩ := hls 1 b2 rfl
      have hB1 : LsA H8 b1 (G N fun c => KM.forced F1 c || KM.forced F2 c) := hB1
      have hB2 : LsA H8 b2 (G N fun c => KM.forced F1 c && KM.forced F2 c) := hB2
      have hb1n := z7.free hb1n
      have hb2n := z7.free hb2n
      have z78 := Same.trans z7 z8
      have em8 := z8 _ _ em7
      have hw1 := hw1.mono z8
      have hw2 := hw2.mono z8
      have hw3 := hw3.mono z8
      have hw4 := hw4.mono z8
      have hDL := hDL.mono z8
      clear hls z7 em7 e0 em
      -- due
      refine ⟨_, rfl, fa, _, 0, _, rfl, rfl, SqL.of (z78 _ _ hfa), at0, _, rfl, D, _, 0, _, rfl, rfl, SqL.of hD8, at0, _, rfl, D, _, 1, _, rfl, rfl, SqL.of hD8, at1, _, rfl, _, rfl, _, rfl, fa, _, 1, _, rfl, rfl, SqL.of (z78 _ _ hfa), at1, a, f2, N, F2, rfl, z78 _ _ hN, hF2.mono z78, hn6, ok2.len, ok2.le ok, fun H9 d2 s9 hd2 hD2 => ?_⟩
      have z9 := Same.trans z78 s9
      refine ⟨_, rfl, fa, _, 0, _, rfl, rfl, SqL.of (z9 _ _ hfa), at0, (by show 6 ≤ sizeLine; decide), fun rd hrd => ?_⟩
      have s10 := same_upd (o := .lst [.ref f1, .ref b1, .ref b2, .ref dl, .ref d2, .ref f1]) hrd
      have z10 := Same.trans z9 s10
      have hrd0 := z9.free hrd
      have hd20 := z78.free hd2
      have ed : upd H9 rd (.lst [.ref f1, .ref b1, .ref b2, .ref dl, .ref d2, .ref f1]) rd = some (.lst [.ref f1, .ref b1, .ref b2, .ref dl, .ref d2, .ref f1]) := upd_same
      have sm := Same.trans s9 s10
      have em10 := sm _ _ em8
      have hw1 := hw1.mono sm
      have hw2 := hw2.mono sm
      have hw3 := hw3.mono sm
      have hw4 := hw4.mono sm
      have hDL := hDL.mono sm
      have hB1 := hB1.mono sm
      have hB2 := hB2.mono sm
      have hD2 := hD2.mono s10
      generalize upd H9 rd (.lst [.ref f1, .ref b1, .ref b2, .ref dl, .ref d2, .ref f1]) = H10 at z10 ed em10 hw1 hw2 hw3 hw4 hDL hB1 hB2 hD2 ⊢
      obtain ⟨J0, hJ, k0, a3, a4, a5⟩ := hS.lift z10
      have hPs : Paired (MD Z.C J0 N) [.ref p, w1, w2, w3, w4, .ref p] [.ref f1, .ref b1, .ref b2, .ref dl, .ref d2, .ref f1] := by
        have m0 : MD Z.C J0 N (.ref p) (.ref f1) := ⟨f1, F1, rfl, hF10.mono k0, ok1, hu0.mono k0⟩
        have po := or_pl ok ok1 ok2
        have pa := and_pl ok ok1 ok2
        have pm1 := meets_pl ok ok1
        have pm2 := meets_pl ok ok2
        have m1 : MD Z.C J0 N w1 (.ref b1) := ⟨b1, _, rfl, hB1.lift a3 a5 hb1n, po.fam, by rw [GG up_or]; exact hw1.lift a3 a4⟩
        have m2 : MD Z.C J0 N w2 (.ref b2) := ⟨b2, _, rfl, hB2.lift a3 a5 hb2n, pa.fam, by rw [GG up_and]; exact hw2.lift a3 a4⟩
        have m3 : MD Z.C J0 N w3 (.ref dl) := ⟨dl, _, rfl, hDL.lift a3 a5 hdl, pm1.fam, by rw [GG (up_meetsD ok1)]; exact hw3.lift a3 a4⟩
        have m4 : MD Z.C J0 N w4 (.ref d2) := ⟨d2, _, rfl, hD2.lift a3 a5 hd20, pm2.fam, by rw [GG (up_meetsD ok2)]; exact hw4.lift a3 a4⟩
        exact .cons m0 (.cons m1 (.cons m2 (.cons m3 (.cons m4 (.cons m0 .nil)))))
      have emJ := a5 _ _ hrm0 em10
      have edJ := a5 _ _ hrd0 ed
      have hNJ : LNm J0 a N := k0 _ _ hN0
      have hfaJ := k0 _ _ hfa0
      have hF2J := hF20.mono k0
      have hvJ := hv0.mono k0
      clear hw1 hw2 hw3 hw4 hDL hB1 hB2 hD2 em10 ed
      generalize hmade : [V.ref p, w1, w2, w3, w4, V.ref p] = made at hPs emJ ⊢
      generalize hdue : [V.ref f1, V.ref b1, V.ref b2, V.ref dl, V.ref d2, V.ref f1] = due at hPs edJ ⊢
      have hml : made.length = 6 := by rw [← hmade]; rfl
      -- the turns
      refine ⟨2, rfl, by decide, by decide, for_range (n := 2) (fun i σ H' => (∃ x1 x2 x3 x4, σ = [some (.ref st), some (.ref a), some (.ref fa), some (.ref pr), some (.ref p), some (.ref p'), some (.ref dl), some (.ref rm), some (.ref D), some (.ref rd), x1, x2, x3, x4, none]) ∧ ∃ J, StAt J H' st (m + 100 * i) ∧ Same J0 J)
        ⟨⟨none, none, none, none, rfl⟩, J0, hJ, Same.refl _⟩ ?_ ?_⟩
      · rintro i σ H' hi ⟨⟨x1, x2, x3, x4, rfl⟩, J, hJ1, k1⟩
        refine ⟨_, rfl, _, rfl, rm, made, rfl, .inl (SqL.of (hJ1.1 _ _ (k1 _ _ emJ))), st, ((made.length : Nat) : Int), m + 100 * i, J, rfl, hJ1, by omega, by omega, by omega, fun H11 J2 ql ks hJ2 k2 hql hks => ?_⟩
        have k12 := Same.trans k1 k2
        refine ⟨ql, rfl, ⟨_, SqL.of (hJ2.1 _ _ hql)⟩, for_list (K := K) (xs := ks.map V.int) (fun j σ H' => (∃ x1 x2 x3 x4, σ = [some (.ref st), some (.ref a), some (.ref fa), some (.ref pr), some (.ref p), some (.ref p'), some (.ref dl), some (.ref rm), some (.ref D), some (.ref rd), x1, x2, x3, x4, none]) ∧ Same H11 H')
          ⟨⟨_, _, _, _, rfl⟩, Same.refl _⟩ (fun j σ H' _ z => SqL.of (z.2 _ _ (hJ2.1 _ _ hql))) ?_ ?_⟩
        · rintro j y σ H12 hj ⟨⟨y1, y2, y3, y4, rfl⟩, z12⟩
          obtain ⟨kk, hkk, rfl⟩ := map_at hj
          obtain ⟨hk0, hk1⟩ := hks kk (List.mem_of_getElem? hkk)
          obtain ⟨k, rfl⟩ : ∃ k : Nat, kk = (k : Int) := ⟨kk.toNat, by omega⟩
          have hk6 : k < made.length := by omega
          obtain ⟨vk, sk, hvk, hsk, hmd⟩ := MDs.get hPs hk6
          have kall : Same J0 H12 := Same.trans k12 (Same.trans hJ2.1 z12)
          obtain ⟨sa, Dk, rfl, hDk, okD, hPk⟩ := hmd.mono kall
          have hN12 : LNm H12 a N := kall _ _ hNJ
          have hm12 := kall _ _ emJ
          have hd12 := kall _ _ edJ
          have hfa12 := kall _ _ hfaJ
          have hF212 := hF2J.mono kall
          have hv12 := hvJ.mono kall
          have pk := fam_pl ok okD
          clear hmd
          obtain ⟨p2, dx2, n2, t2, ev2, hp2, hn2, ht2⟩ := id hPk
          subst ev2
          have hat := atI_nat hvk
          have hds := atI_nat hsk
          -- least_here
          refine ⟨_, rfl, _, rfl, _, rfl, rd, due, (k : Int), _, rfl, rfl, SqL.of hd12, hds, a, sa, N, Dk, rfl, hN12, hDk, hn6, okD.le ok, fun H13 r s13 hr13 hL13 => ?_⟩
          obtain ⟨ls13, hr13', hls13⟩ := hL13
          -- outcomes, sets
          refine ⟨_, rfl, _, rfl, rm, made, (k : Int), _, rfl, rfl, SqL.of (s13 _ _ hm12), hat, p2, dx2, _, rfl, s13 _ _ hp2, p2, dx2, _, _, rfl, s13 _ _ hp2, pwf_names _ _, _, rfl, a, _, rfl, .inl ⟨SqL.of (s13 _ _ hN12), fun t0 ht0 => ?_⟩⟩
          have s14 := same_upd (o := .tup (N.map V.str)) ht0
          have z14 := Same.trans s13 s14
          refine neT (c := N) (d := N) ((hn2.ts.mono s13).mono s14) ⟨t0, rfl, upd_same⟩ ⟨_, rfl, ?_⟩
          rw [decide_eq_true rfl]
          refine iteF ⟨_, rfl, _, rfl, rm, made, (k : Int), _, rfl, rfl, SqL.of (z14 _ _ hm12), hat, p2, dx2, _, rfl, z14 _ _ hp2, p2, dx2, _, _, rfl, z14 _ _ hp2, pwf_least _ _, _, rfl, r, ls13, rfl, .inl ⟨SqL.of (s14 _ _ hr13'), fun t1 ht1 => ?_⟩⟩
          have s15 := same_upd (o := .tup ls13) ht1
          have z15 := Same.trans z14 s15
          refine neTs (ht2.mono z15) ⟨_, upd_same, (hls13.mono s14).mono s15⟩ ⟨_, rfl, ?_⟩
          rw [decide_eq_true rfl]
          -- even
          refine iteF ⟨_, rfl, _, rfl, rm, made, (k : Int), _, rfl, rfl, SqL.of (z15 _ _ hm12), hat, p2, dx2, _, rfl, z15 _ _ hp2, _, N, _, rfl, hPk.mono z15, pk, fun H16 s16 => ?_⟩
          have z16 := Same.trans z15 s16
          have hL16 : LsA H16 r (G N (KM.forced Dk)) := ⟨ls13, s16 _ _ (s15 _ _ (s14 _ _ hr13')), ((hls13.mono s14).mono s15).mono s16⟩
          refine ⟨_, rfl, _, rfl, _, rfl, rd, due, (k : Int), _, rfl, rfl, SqL.of (z16 _ _ hd12), hds, a, sa, N, Dk, rfl, z16 _ _ hN12, hDk.mono z16, hn6, okD.len, okD.le ok, fun H17 r2 s17 hr2 hL2 => ⟨_, rfl, eqLs hL2 (hL16.mono s17) ⟨rfl, _, rfl, ?_⟩⟩⟩
          have z17 := Same.trans z16 s17
          rw [meets_G okD, decide_eq_true rfl]
          -- forces
          refine iteF ⟨_, rfl, a, N, rfl, z17 _ _ hN12, hn6, fun H18 ps s18 hpsn ⟨ys, hps, hys⟩ => ?_⟩
          have z18 := Same.trans z17 s18
          refine ⟨ps, rfl, ⟨_, SqL.of hps⟩, for_list (K := K) (xs := ys) (fun l σ H' => (∃ x4, σ = [some (.ref st), some (.ref a), some (.ref fa), some (.ref pr), some (.ref p), some (.ref p'), some (.ref dl), some (.ref rm), some (.ref D), some (.ref rd), y1, some (.int (k : Int)), some (.ref r), x4, none]) ∧ Same H18 H')
            ⟨⟨_, rfl⟩, Same.refl _⟩ (fun l σ H' _ z => SqL.of (z.2 _ _ hps)) ?_ ?_⟩
          · rintro l y σ H19 hl19 ⟨⟨y4', rfl⟩, z19⟩
            obtain ⟨c, hc, hy⟩ := hys.get hl19
            have hcs := KM.mem_allS.mp (List.mem_of_getElem? hc)
            have z19' := Same.trans z18 z19
            refine ⟨_, rfl, _, rfl, rm, made, (k : Int), _, rfl, rfl, SqL.of (z19' _ _ hm12), hat, p2, dx2, _, rfl, z19' _ _ hp2, pwf_no _ _ fc_ fo2_, _, rfl, _, y, N, _, c, rfl, hPk.mono z19', pk, hy.mono z19, hcs, fun H20 s20 => ?_⟩
            have z20 := Same.trans z19' s20
            refine ⟨_, rfl, _, rfl, rd, due, (k : Int), _, rfl, rfl, SqL.of (z20 _ _ hd12), hds, _, rfl, sa, Dk, y, c, rfl, hDk.mono z20, (hy.mono z19).mono s20, okD.le ok, fun H21 s21 => ⟨rfl, _, rfl, ?_⟩⟩
            rw [forcedF c hcs, decide_eq_true rfl]
            exact iteF ⟨⟨_, rfl⟩, Same.trans z19 (Same.trans s20 s21)⟩
          · rintro σ H19 ⟨⟨y4', rfl⟩, z19⟩
            have z19' := Same.trans z18 z19
            refine ⟨_, rfl, _, rfl, rm, made, (k : Int), _, rfl, rfl, SqL.of (z19' _ _ hm12), hat, p2, dx2, _, rfl, z19' _ _ hp2, pwf_no _ _ cv_ cv2_, _, rfl, _, _, N, N, _, _, rfl, hPk.mono z19', hv12.mono z19', pk, pv2, fun _ H20 s20 => ?_, fun ne => absurd rfl ne⟩
            have z20 := Same.trans z19' s20
            refine ⟨_, rfl, _, rfl, _, rfl, rd, due, (k : Int), _, rfl, rfl, SqL.of (z20 _ _ hd12), hds, _, rfl, fa, _, 1, _, rfl, rfl, SqL.of (z20 _ _ hfa12), at1, a, sa, f2, N, Dk, F2, rfl, z20 _ _ hN12, hDk.mono z20, hF212.mono z20, hn6, okD.le ok, ok2.le ok, fun H21 s21 => ⟨rfl, _, rfl, ?_⟩⟩
            rw [covers_G, decide_eq_true rfl]
            exact iteF ⟨⟨_, _, _, _, rfl⟩, Same.trans z12 (Same.trans z20 s21)⟩
        · rintro σ H12 ⟨⟨y1, y2, y3, y4, rfl⟩, z12⟩
          exact ⟨⟨_, _, _, _, rfl⟩, J2, (hJ2.ext z12).more (by omega), k12⟩
      · rintro σ H' ⟨⟨x1, x2, x3, x4, rfl⟩, J, hJ1, k1⟩
        exact q H' J (hJ1.more (by omega)) (Same.trans k0 k1)
end
end L2.K25

namespace L2.K25
open PySem PySem.Spec PyProof.Rows
/-! the readings of the operations of powers, in short -/
section
variable {C CU : Addr} {H : Hp} {u v : V} {N : List Str} {L L' : List (List Str)} {Q : VK} {E : XK} {op : Bool → Bool → Bool}
theorem rd_bin (hu : PowAt C H u N L) (hv : PowAt C H v N L') (pl : PL N L) (pl' : PL N L') (k : ∀ H' z, Same H H' → PowAt C H' z N (G N fun c => op (KM.forced L c) (KM.forced L' c)) → Q z H') :
    ∃ (a dx : Addr) (fs : List (Str × V)) (b dy : Addr) (gs : List (Str × V)), u = .ref a ∧ v = .ref b ∧ H a = some (.ins C dx fs) ∧ H b = some (.ins C dy gs) ∧ spBin C CU op [u, v] H Q E := by
  obtain ⟨p, dx, n, t, e, hp, _⟩ := id hu
  obtain ⟨p', dx', n', t', e', hp', _⟩ := id hv
  exact ⟨p, dx, _, p', dx', _, e, e', hp, hp', u, v, N, N, L, L', rfl, hu, hv, pl, pl', fun _ => k, fun ne => absurd rfl ne⟩
theorem rd_inv (hu : PowAt C H u N L) (pl : PL N L) (k : ∀ H' z, Same H H' → PowAt C H' z N (G N (KM.meets L)) → Q z H') :
    ∃ (a dx : Addr) (fs : List (Str × V)), u = .ref a ∧ H a = some (.ins C dx fs) ∧ spInv C [u] H Q E := by
  obtain ⟨p, dx, n, t, e, hp, _⟩ := id hu
  exact ⟨p, dx, _, e, hp, u, N, L, rfl, hu, pl, k⟩
theorem rd_sets (hu : PowAt C H u N L) (k : ∀ t, TsA H t L → Q (.ref t) H) : ∃ a dx fs, u = .ref a ∧ H a = some (.ins C dx fs) ∧ getSp C "least" [.ref a] H Q E := by
  obtain ⟨p, dx, n, t, e, hp, hn, ht⟩ := hu
  exact ⟨p, dx, _, e, hp, p, dx, _, _, rfl, hp, pwf_least _ _, k t ht⟩
theorem rd_out (hu : PowAt C H u N L) (k : ∀ t, TNm H t N → Q (.ref t) H) : ∃ a dx fs, u = .ref a ∧ H a = some (.ins C dx fs) ∧ getSp C "names" [.ref a] H Q E := by
  obtain ⟨p, dx, n, t, e, hp, hn, ht⟩ := hu
  exact ⟨p, dx, _, e, hp, p, dx, _, _, rfl, hp, pwf_names _ _, k n hn⟩
theorem rd_even (hu : PowAt C H u N L) (pl : PL N L) (k : ∀ H', Same H H' → Q (.bl (decide (G N (KM.meets L) = L))) H') : ∃ a dx fs, u = .ref a ∧ H a = some (.ins C dx fs) ∧ spEven C [.ref a] H Q E := by
  obtain ⟨p, dx, n, t, e, hp, hn, ht⟩ := id hu
  subst e
  exact ⟨p, dx, _, rfl, hp, _, N, L, rfl, hu, pl, k⟩
theorem rd_ne (hu : PowAt C H u N L) (hv : PowAt C H v N L) (q : Q (.bl false) H) : rNeO C (spEq C) u v H Q := by
  obtain ⟨p, dx, n, t, e, hp, _⟩ := id hu
  obtain ⟨p', dx', n', t', e', hp', _⟩ := id hv
  refine ⟨p, dx, _, p', dx', _, e, e', hp, hp', u, v, N, N, L, L, rfl, hu, hv, true, ?_, q⟩
  rw [decide_eq_true rfl, decide_eq_true rfl]
  rfl
theorem rd_cov (hu : PowAt C H u N L) (hv : PowAt C H v N L') (pl : PL N L) (pl' : PL N L') (k : ∀ H', Same H H' → Q (.bl (L'.all (KM.forced L))) H') : spCovers C CU [u, v] H Q E :=
  ⟨u, v, N, N, L, L', rfl, hu, hv, pl, pl', fun _ => k, fun ne => absurd rfl ne⟩
theorem rd_at (hu : PowAt C H u N L) : ∃ (p dx : Addr) (n t : Addr), u = .ref p ∧ H p = some (.ins C dx (pwf n t)) := by
  obtain ⟨p, dx, n, t, e, hp, _⟩ := hu
  exact ⟨p, dx, n, t, e, hp⟩
end
theorem PowAt.updL {C : Addr} {H : Hp} {D : Addr} {v : V} {N : List Str} {L : List (List Str)} {xs ys : List V} (e : H D = some (.lst xs)) (h : PowAt C H v N L) : PowAt C (upd H D (.lst ys)) v N L := by
  obtain ⟨p, dx, n, t, ev, hp, hn, ht⟩ := h
  exact ⟨p, dx, n, t, ev, by rw [upd_ne (ne_of hp e (by intro z; cases z))]; exact hp, by unfold TNm; rw [upd_ne (ne_of hn e (by intro z; cases z))]; exact hn, ht.updL e⟩
/-- both ways of an if lead to one end -/
theorem if_both {c A B : Prop} [Decidable c] {R : Hp → Prop} (I : Hp → Prop) (hB : (∀ H, I H → R H) → ¬ c → B) (hA : (∀ H, I H → R H) → c → A) (hR : ∀ H, I H → R H) : if c then A else B := by
  by_cases h : c
  · rw [if_pos h]
    exact hA hR h
  · rw [if_neg h]
    exact hB hR h
/-- a row of sets is no row of rows -/
theorem fam_ne {H : Hp} {f D g : Addr} {F : List (List Str)} {r ys : List V} (h : LsA H f F) (ne : F ≠ []) (hD : H D = some (.lst (.ref g :: r))) (hg : H g = some (.lst ys)) : f ≠ D := by
  rintro rfl
  obtain ⟨vs, e, hv⟩ := h
  rw [hD] at e
  have e2 : .ref g :: r = vs := HO.lst.inj (Option.some.inj e)
  subst e2
  cases hv with
  | cons q _ =>
    obtain ⟨a, ea, ha⟩ := q
    cases ea
    rw [hg] at ha
    cases ha
/-- what the law holds by its names -/
structure LC (C : Addr) (H : Hp) (a fa f1 f2 : Addr) (u v : V) (N : List Str) (F1 F2 : List (List Str)) : Prop where
  hN : LNm H a N
  hfa : H fa = some (.lst [.ref f1, .ref f2])
  hF1 : LsA H f1 F1
  hF2 : LsA H f2 F2
  hu : PowAt C H u N (G N (KM.forced F1))
  hv : PowAt C H v N (G N (KM.forced F2))
theorem LC.mono {C : Addr} {H H' : Hp} {a fa f1 f2 : Addr} {u v : V} {N : List Str} {F1 F2 : List (List Str)} (s : Same H H') (h : LC C H a fa f1 f2 u v N F1 F2) : LC C H' a fa f1 f2 u v N F1 F2 :=
  ⟨s _ _ h.hN, s _ _ h.hfa, h.hF1.mono s, h.hF2.mono s, h.hu.mono s, h.hv.mono s⟩
end L2.K25

namespace L2.K25
open PySem PySem.Spec PyProof.Rows
/-! the law -/
def spLaw (K : PySem.W.Frag) : Sp := fun vs H Q _ => ∃ (a : Addr) (ns : List Int), vs = [.ref a] ∧ SqL K H a (ns.map V.int) ∧ ns.length ≤ 63 ∧ ∀ H', Q (.bl true) H'
theorem NsGood.ok {N M : List Str} {n : Nat} (h : NsGood N n) (hp : M.Perm N) (hs : sortedS M = true) (h1 : 1 ≤ n) (h6 : n ≤ 6) : NmOk M where
  srt := hs
  nd := hp.symm.nodup h.nd
  lo := by rw [hp.length_eq, h.len]; exact h1
  hi := by rw [hp.length_eq, h.len]; exact h6
  vn := fun x hx => h.vn x (hp.mem_iff.mp hx)
/-- a family at v -/
def FR (N : List Str) (J : Hp) (v : V) (F : List (List Str)) : Prop := ∃ a, v = .ref a ∧ LsA J a F ∧ FamOk N F ∧ F.length ≤ 64
def FRs (N : List Str) (J : Hp) (vs : List V) (Fs : List (List (List Str))) : Prop := Paired (FR N J) vs Fs
theorem FR.mono {N : List Str} {J J' : Hp} {v : V} {F : List (List Str)} (s : Same J J') (h : FR N J v F) : FR N J' v F := let ⟨a, e, h1, h2⟩ := h; ⟨a, e, h1.mono s, h2⟩
theorem FRs.mono {N : List Str} {J J' : Hp} {vs : List V} {Fs : List (List (List Str))} (s : Same J J') (h : FRs N J vs Fs) : FRs N J' vs Fs := Paired.mapP h fun _ _ r => r.mono s
theorem fams_ne {N : List Str} {H : Hp} {f D : Addr} {F : List (List Str)} {vs : List V} {Fs : List (List (List Str))} (h : LsA H f F) (ne : F ≠ []) (hD : H D = some (.lst vs)) (hv : FRs N H vs Fs) : f ≠ D := by
  rintro rfl
  obtain ⟨us, e, hu⟩ := h
  rw [hD] at e
  have e2 : vs = us := HO.lst.inj (Option.some.inj e)
  subst e2
  cases hu with
  | nil => exact ne rfl
  | cons q _ =>
    cases hv with
    | cons g _ =>
      obtain ⟨a, ea, ha⟩ := q
      obtain ⟨b, eb, ⟨ws, hb, _⟩, _⟩ := g
      cases ea
      cases eb
      rw [hb] at ha
      cases ha
theorem FRs.set {N : List Str} {J : Hp} {D : Addr} {vs xs ys : List V} {Fs : List (List (List Str))} (hD : J D = some (.lst xs)) (hv : FRs N J xs Fs) {Gs : List (List (List Str))} (h : FRs N J vs Gs) : FRs N (upd J D (.lst ys)) vs Gs :=
  Paired.mapP h fun _ _ ⟨a, e, h1, h2⟩ => ⟨a, e, h1.updL hD (fams_ne h1 h2.1.ne hD hv), h2⟩
theorem FRs.snoc {N : List Str} {J : Hp} : ∀ {vs : List V} {Fs : List (List (List Str))} {v : V} {F : List (List Str)}, FRs N J vs Fs → FR N J v F → FRs N J (vs ++ [v]) (Fs ++ [F])
  | _, _, _, _, .nil, r => .cons r .nil
  | _, _, _, _, .cons q t, r => .cons q (FRs.snoc t r)
theorem cut1 (vs : List V) : cutV vs none (some 1) = vs.take 1 := by
  show (vs.drop (HT.sIx vs.length 0 none)).take (HT.sIx vs.length vs.length (some 1) - HT.sIx vs.length 0 none) = _
  have h := HT.sIx_nat vs.length vs.length 1
  rw [show ((1 : Nat) : Int) = 1 from rfl] at h
  rw [h]
  show (vs.drop 0).take _ = _
  cases vs with
  | nil => rfl
  | cons x r => simp [HT.sIx]
theorem Paired.snocR {α β : Type} {R : α → β → Prop} : ∀ {vs : List α} {Fs : List β} {v : α} {F : β}, Paired R vs Fs → R v F → Paired R (vs ++ [v]) (Fs ++ [F])
  | _, _, _, _, .nil, r => .cons r .nil
  | _, _, _, _, .cons q t, r => .cons q (Paired.snocR t r)
/-- such a list at v, not D -/
def TRn (D : Addr) (H : Hp) (v : V) (t : Told) : Prop := ∃ a, v = .ref a ∧ a ≠ D ∧ TLst H a t
theorem TRn.mono {D : Addr} {H H' : Hp} {v : V} {t : Told} (s : Same H H') (h : TRn D H v t) : TRn D H' v t := let ⟨a, e, n, h⟩ := h; ⟨a, e, n, h.mono s⟩
theorem TRn.updL {D : Addr} {H : Hp} {v : V} {t : Told} {xs ys : List V} (e : H D = some (.lst xs)) (h : TRn D H v t) : TRn D (upd H D (.lst ys)) v t := let ⟨a, e1, n, h⟩ := h; ⟨a, e1, n, h.updL e n⟩
theorem dp_tolds {K : PySem.W.Frag} {D : Addr} {H : Hp} : ∀ {vs : List V} {ts : List Told}, Paired (TRn D H) vs ts → DpAll K H vs (ts.map dTd)
  | _, _, .nil => .nil
  | _, _, .cons ⟨a, e, n, h⟩ t => by
    subst e
    exact .cons (dp_told h) (dp_tolds t)
theorem plain_tolds : ∀ ts : List Told, PyData.plainAll (ts.map dTd) = true
  | [] => by simp [PyData.plainAll]
  | t :: ts => by simp [PyData.plainAll, (plain_told t).1, plain_tolds ts]
theorem dep_tolds : ∀ ts : List Told, PyData.depthAll (ts.map dTd) ≤ 10
  | [] => by simp [PyData.depthAll]
  | t :: ts => by
    have := (plain_told t).2
    have := dep_tolds ts
    simp only [List.map_cons, PyData.depthAll]
    omega
theorem tolds_ne {K : PySem.W.Frag} {D D' a b : Addr} {H : Hp} {vs ws : List V} {ts : List Told} {Q : VK} (ha : H a = some (.lst vs)) (hb : H b = some (.lst ws)) (hv : Paired (TRn D H) vs ts) (hw : Paired (TRn D' H) ws ts) (q : Q (.bl false) H) : rNeP K (.ref a) (.ref b) H Q := by
  have hp : PyData.plain (.list (ts.map dTd)) = true := by simp only [PyData.plain, plain_tolds ts]
  have hs : shp (.list (ts.map dTd)) = true := by
    unfold shp
    rw [hp, decide_eq_true (show PyData.depth (.list (ts.map dTd)) ≤ 60 by have := dep_tolds ts; simp only [PyData.depth]; omega)]
    rfl
  exact ⟨_, _, .lst (.of ha) (dp_tolds hv), .lst (.of hb) (dp_tolds hw), hs, hs, by rw [PySem.SeqAt.eqv_refl_plain _ hp]; exact q⟩
section
variable {N : List Str} {F F' : List (List Str)}
theorem told0 : toldOf (0 + ((0 : Nat) : Int)) N N (G N (KM.forced F)) (G N (KM.forced F')) = .pw (G N fun c => KM.forced F c || KM.forced F' c) := by
  unfold toldOf
  rw [if_pos rfl, if_pos (by decide)]
  exact congrArg _ (op_G or)
theorem told1 : toldOf (0 + ((1 : Nat) : Int)) N N (G N (KM.forced F)) (G N (KM.forced F')) = .pw (G N fun c => KM.forced F c && KM.forced F' c) := by
  unfold toldOf
  rw [if_pos rfl, if_neg (by decide), if_pos (by decide)]
  exact congrArg _ (op_G and)
theorem told2 : toldOf (0 + ((2 : Nat) : Int)) N N (G N (KM.forced F)) (G N (KM.forced F')) = .cv ((KM.allS rle N).all fun c => !(KM.forced F' c) || KM.forced F c) := by
  unfold toldOf
  rw [if_pos rfl, if_neg (by decide), if_neg (by decide)]
  exact congrArg _ covers_G
theorem tolds : ((List.range 3).map fun j : Nat => toldOf (0 + (j : Int)) N N (G N (KM.forced F)) (G N (KM.forced F'))) = [.pw (G N fun c => KM.forced F c || KM.forced F' c), .pw (G N fun c => KM.forced F c && KM.forced F' c), .cv ((KM.allS rle N).all fun c => !(KM.forced F' c) || KM.forced F c)] := by
  rw [← told0, ← told1, ← told2]
  rfl
end
section
variable {N : List Str} {L L' : List (List Str)}
theorem or_comm' : (G N fun c => KM.forced L c || KM.forced L' c) = G N fun c => KM.forced L' c || KM.forced L c := congrArg (G N) (funext fun c => Bool.or_comm _ _)
theorem and_comm' : (G N fun c => KM.forced L c && KM.forced L' c) = G N fun c => KM.forced L' c && KM.forced L c := congrArg (G N) (funext fun c => Bool.and_comm _ _)
theorem or_self' (h : Pw N L) : (G N fun c => KM.forced L c || KM.forced L c) = L := by
  simp only [Bool.or_self]
  exact h.gg
theorem absorb' (h : Pw N L) : (G N fun c => KM.forced L c && KM.forced (G N fun c => KM.forced L c || KM.forced L' c) c) = L := by
  have e : (G N fun c => KM.forced L c && KM.forced (G N fun c => KM.forced L c || KM.forced L' c) c) = G N (KM.forced L) := KM.gre_congr fun c hc => by
    rw [forced_G up_or hc]
    cases KM.forced L c <;> simp
  rw [e, h.gg]
theorem cov_or (h : Pw N L) : (L.all (KM.forced (G N fun c => KM.forced L c || KM.forced L' c))) = true := by
  rw [List.all_eq_true]
  intro c hc
  rw [forced_G up_or (h.pl.sb c hc).1, KM.forced_iff.mpr ⟨c, hc, KM.sub_refl c⟩]
  rfl
end
/-- a pair: a power and its family -/
def PM (C : Addr) (H : Hp) (N : List Str) (x : V) : Prop := ∃ (a g : Addr) (y : V) (FF : List (List Str)), x = .ref a ∧ H a = some (.tup [y, .ref g]) ∧ PowAt C H y N (G N (KM.forced FF)) ∧ LsA H g FF ∧ FamOk N FF
theorem PM.mono {C : Addr} {H H' : Hp} {N : List Str} {x : V} (s : Same H H') (h : PM C H N x) : PM C H' N x := let ⟨a, g, y, FF, e, h1, h2, h3, h4⟩ := h; ⟨a, g, y, FF, e, s _ _ h1, h2.mono s, h3.mono s, h4⟩
theorem lst_ne {J : Hp} {D p f1 f2 : Addr} {ys : List V} (hD : J D = some (.lst [.ref f1, .ref f2])) {N : List Str} (hp : J p = some (.lst (N.map V.str))) : upd J D (.lst ys) p = some (.lst (N.map V.str)) := by
  rw [upd_ne]
  · exact hp
  · rintro rfl
    rw [hD] at hp
    have e := HO.lst.inj (Option.some.inj hp)
    cases N with
    | nil => cases e
    | cons x r => cases (List.cons.inj e).1
theorem fam2_ne {H : Hp} {f D f1 f2 : Addr} {F F1 : List (List Str)} {N : List Str} (h : LsA H f F) (ne : F ≠ []) (hD : H D = some (.lst [.ref f1, .ref f2])) (h1 : LsA H f1 F1) (ok1 : FamOk N F1) : f ≠ D := by
  obtain ⟨us, e, _⟩ := h1
  exact fam_ne h ne hD e
section
variable {P : Program} {w : World} {K : PySem.W.Frag} {mg : Str → Option Value} {base : Heap} {f : Addr} {fd : FuncData}
theorem scLaw : FnScope ["_law_script", "_law_state", "_law_names_here", "_law_families_here", "_law_one", "_law_two", "_law_due", "_law_dual_here", "_law_far", "_law_family", "_law_power", "_law_same", "_law_k", "_law_plan"] ["_law_script"] (defScope sLaw) := ⟨rfl, rfl, rfl, by decide +kernel, rfl, by decide +kernel, by decide +kernel⟩
theorem ok_law (F : Fun K "law" "law" sLaw f fd) (T : Txt K mg) (Z : PwT K mg) (Y : ExT K mg) (G__law_start : DStart P w K mg base) (G__law_names : DNames P w K mg base) (G__law_draw : DDraw P w K mg base) (G__law_families : DFam P w K mg base)
    (G__law_dual : DDualL P w K mg base) (G__law_joined : DJoined P w K mg base) (G__law_covers : DCoversL P w K mg base) (G__law_least : DLeast P w K mg base) (G__law_told : DTold P w K mg base Z.C) (G__law_forces_right : DRight P w K mg base Z.C)
    (G__law_apart : DApart P w K mg base Z.C) (G_init : DInit P w K mg base Z.f (spInit Z.C)) (G_or : DOr P w K mg base Z.C Y.C) (G_and : DAnd P w K mg base Z.C Y.C) (G_invert : DInv P w K mg base Z.C) (G_covers : DCovers P w K mg base Z.C Y.C)
    (G_eq : DEq P w K mg base Z.C) (G_sets : DSets P w K mg base Z.C) (G_outcomes : DOut P w K mg base Z.C) (G_even : DEven P w K mg base Z.C)
    (kbC : ∀ (s : Shared) (u : Value) (ws : List Value), K.In s.heap → ws.length = 1 → BindsTo s G_covers.fd ⟨[u] ++ [], [("other" : Str)].zip ws⟩ ([("self" : Str), "other"].zip (u :: ws))) :
    FnOk P w K mg base CX0 9 f fd ["_law_script"] (spLaw K) := by
  refine F.ok scLaw (fun vs H Q E h => ?_) (fun cdv A outer s H vs Q E hr h => ?_)
  · obtain ⟨a, ns, rfl, _⟩ := h
    rfl
  · obtain ⟨sa, ns, rfl, hsc, hns, q⟩ := h
    refine ⟨_, (pss_cons (ps_set (i := 1) scLaw.nd rfl (Or.inr rfl) (pe_call G__law_start.ok (hr.mono (by decide)) rfl G__law_start.m G__law_start.kp G__law_start.b .nil pass0 (pa_cons (pv 0) pa_nil))) (pss_cons (ps_set (i := 2) scLaw.nd rfl (Or.inr rfl) (pe_callB (cr_strsK K rfl) (by rfl) T.b_sorted (by decide +kernel) (pa_cons (pe_call G__law_names.ok (hr.mono (by decide)) rfl G__law_names.m G__law_names.kp G__law_names.b .nil pass0 (pa_cons (pv 1) (pa_cons (pe_op op_add pe_int (pe_call G__law_draw.ok (hr.mono (by decide)) rfl G__law_draw.m G__law_draw.kp G__law_draw.b .nil pass0 (pa_cons (pv 1) (pa_cons pe_int pa_nil)))) pa_nil))) pa_nil))) (pss_cons (ps_setLc (i := 3) (own := [("_law_k", 12)]) (g := gName 12) (tt := tYes) rfl scLaw.nd rfl rfl (sw_true rfl rfl rfl (by decide +kernel)) (pi_range1 (by rfl) T.b_range (pa_cons pe_int pa_nil)) (blkOk_by (own := [("_law_k", 12)]) (N := ["_law_script", "_law_state", "_law_names_here", "_law_families_here", "_law_one", "_law_two", "_law_due", "_law_dual_here", "_law_far", "_law_family", "_law_power", "_law_same", "_law_k", "_law_plan"]) (sc := defScope sLaw) (by decide +kernel)) (fun _ _ _ _ _ => pg_name (i := 12) scLaw.nd rfl (Or.inl rfl)) (fun _ _ _ _ _ => pts_nil) (fun _ _ _ _ _ => (pe_call G__law_families.ok (hr.mono (by decide)) rfl G__law_families.m G__law_families.kp G__law_families.b .nil pass0 (pa_cons (pv 1) (pa_cons (pv 2) (pa_cons (pe_op op_add pe_int (pe_call G__law_draw.ok (hr.mono (by decide)) rfl G__law_draw.m G__law_draw.kp G__law_draw.b .nil pass0 (pa_cons (pv 1) (pa_cons pe_int pa_nil)))) pa_nil)))))) (pss_cons (ps_if (pt_cmpR op_eq (pe_call G__law_draw.ok (hr.mono (by decide)) rfl G__law_draw.m G__law_draw.kp G__law_draw.b .nil pass0 (pa_cons (pv 1) (pa_cons pe_int pa_nil))) pe_int (nomark _)) (pss_one (ps_asg (pe_op op_cat (pe_ix (ix_listK K rfl) (pv 3) pe_int (fun _ _ => rfl)) (pe_slice sl_list (pe_ix (ix_listK K rfl) (pv 3) pe_int (fun _ _ => rfl)) po_none (po_some pe_int))) (pg_sub (pv 3) pe_int set_list))) pss_nil) (pss_cons (ps_if (pt_cmpR op_eq (pe_call G__law_draw.ok (hr.mono (by decide)) rfl G__law_draw.m G__law_draw.kp G__law_draw.b .nil pass0 (pa_cons (pv 1) (pa_cons pe_int pa_nil))) pe_int (nomark _)) (pss_one (ps_asg (pe_call G__law_dual.ok (hr.mono (by decide)) rfl G__law_dual.m G__law_dual.kp G__law_dual.b .nil pass0 (pa_cons (pv 2) (pa_cons (pe_ix (ix_listK K rfl) (pv 3) pe_int (fun _ _ => rfl)) pa_nil))) (pg_sub (pv 3) pe_int set_list))) pss_nil) (pss_cons (ps_asg (pe_lc (own := [("_law_family", 9)]) (g := gName 9) (tt := tYes) rfl scLaw.nd (pi_listK K rfl (pv 3)) (blkOk_by (own := [("_law_family", 9)]) (N := ["_law_script", "_law_state", "_law_names_here", "_law_families_here", "_law_one", "_law_two", "_law_due", "_law_dual_here", "_law_far", "_law_family", "_law_power", "_law_same", "_law_k", "_law_plan"]) (sc := defScope sLaw) (by decide +kernel)) (fun _ _ _ _ _ => pg_name (i := 9) scLaw.nd rfl (Or.inl rfl)) (fun _ _ _ _ _ => pts_nil) (fun _ _ _ _ _ => (pe_make Z.mk_ G_init.ok (hr.mono (by decide)) rfl Z.mgC G_init.b .nil pass0 (pa_cons (pv 2) (pa_cons (pv 9) pa_nil))))) (pg_lst rfl (pgs_cons (pg_name (i := 4) scLaw.nd rfl (Or.inr rfl)) (pgs_cons (pg_name (i := 5) scLaw.nd rfl (Or.inr rfl)) pgs_nil)))) (pss_cons (ps_set (i := 6) scLaw.nd rfl (Or.inl rfl) (pe_lst (pa_cons (pe_lst (pa_cons pe_str (pa_cons (pe_call G__law_joined.ok (hr.mono (by decide)) rfl G__law_joined.m G__law_joined.kp G__law_joined.b .nil pass0 (pa_cons (pv 2) (pa_cons (pe_ix (ix_listK K rfl) (pv 3) pe_int (fun _ _ => rfl)) (pa_cons (pe_ix (ix_listK K rfl) (pv 3) pe_int (fun _ _ => rfl)) (pa_cons pe_bl pa_nil))))) pa_nil))) pa_nil))) (pss_cons (ps_expr (pe_bmK K rfl PySem.F.plainAttrs_list PySem.F.slot_list_append PySem.F.type_list_append mt_append (pv 6) (pa_cons (pe_lst (pa_cons pe_str (pa_cons (pe_call G__law_joined.ok (hr.mono (by decide)) rfl G__law_joined.m G__law_joined.kp G__law_joined.b .nil pass0 (pa_cons (pv 2) (pa_cons (pe_ix (ix_listK K rfl) (pv 3) pe_int (fun _ _ => rfl)) (pa_cons (pe_ix (ix_listK K rfl) (pv 3) pe_int (fun _ _ => rfl)) (pa_cons pe_bl pa_nil))))) pa_nil))) pa_nil))) (pss_cons (ps_expr (pe_bmK K rfl PySem.F.plainAttrs_list PySem.F.slot_list_append PySem.F.type_list_append mt_append (pv 6) (pa_cons (pe_lst (pa_cons pe_str (pa_cons (pe_call G__law_covers.ok (hr.mono (by decide)) rfl G__law_covers.m G__law_covers.kp G__law_covers.b .nil pass0 (pa_cons (pv 2) (pa_cons (pe_ix (ix_listK K rfl) (pv 3) pe_int (fun _ _ => rfl)) (pa_cons (pe_ix (ix_listK K rfl) (pv 3) pe_int (fun _ _ => rfl)) pa_nil)))) pa_nil))) pa_nil))) (pss_cons (ps_if (pt_cmpR (op_nePK K rfl hr.units) (pe_lc (own := [("_law_plan", 13)]) (g := gName 13) (tt := tYes) rfl scLaw.nd (pi_range1 (by rfl) T.b_range (pa_cons pe_int pa_nil)) (blkOk_by (own := [("_law_plan", 13)]) (N := ["_law_script", "_law_state", "_law_names_here", "_law_families_here", "_law_one", "_law_two", "_law_due", "_law_dual_here", "_law_far", "_law_family", "_law_power", "_law_same", "_law_k", "_law_plan"]) (sc := defScope sLaw) (by decide +kernel)) (fun _ _ _ _ _ => pg_name (i := 13) scLaw.nd rfl (Or.inl rfl)) (fun _ _ _ _ _ => pts_nil) (fun _ _ _ _ _ => (pe_call G__law_told.ok (hr.mono (by decide)) rfl G__law_told.m G__law_told.kp G__law_told.b .nil pass0 (pa_cons (pv 13) (pa_cons (pv 4) (pa_cons (pv 5) pa_nil)))))) (pv 6) (nomark _)) (pss_one (ps_ret pe_bl)) pss_nil) (pss_cons (ps_if (PW.pt (pw_or (pt_cmpR (op_nePK K rfl hr.units) (pe_prop (pe_invS (E := fun _ => E0) G_invert.mt.at_ G_invert.mt.fn G_invert.ok (hr.mono (by decide)) G_invert.b (fun _ => passAt0) (pv 4)) Z.cl G_sets.pr G_sets.ok (hr.mono (by decide)) G_sets.b .nil pass0 rfl) (pe_callTy (call_tupleK K rfl) (by rfl) T.b_tuple (by decide +kernel) (pa_cons (pe_call G__law_dual.ok (hr.mono (by decide)) rfl G__law_dual.m G__law_dual.kp G__law_dual.b .nil pass0 (pa_cons (pv 2) (pa_cons (pe_ix (ix_listK K rfl) (pv 3) pe_int (fun _ _ => rfl)) pa_nil))) pa_nil)) (nomark _)) (pw_or (pt_cmpR (op_nePK K rfl hr.units) (pe_prop (pe_invS (E := fun _ => E0) G_invert.mt.at_ G_invert.mt.fn G_invert.ok (hr.mono (by decide)) G_invert.b (fun _ => passAt0) (pv 4)) Z.cl G_outcomes.pr G_outcomes.ok (hr.mono (by decide)) G_outcomes.b .nil pass0 rfl) (pe_callTy (call_tupleK K rfl) (by rfl) T.b_tuple (by decide +kernel) (pa_cons (pv 2) pa_nil)) (nomark _)) (pw_or1 (pt_cmpR (op_neO Z.nf Z.ne Z.ob G_eq.mt.at_ G_eq.mt.fn G_eq.ok (hr.mono (by decide)) G_eq.b) (pe_invS (E := fun _ => E0) G_invert.mt.at_ G_invert.mt.fn G_invert.ok (hr.mono (by decide)) G_invert.b (fun _ => passAt0) (pe_invS (E := fun _ => E0) G_invert.mt.at_ G_invert.mt.fn G_invert.ok (hr.mono (by decide)) G_invert.b (fun _ => passAt0) (pv 4))) (pv 4) (nomark _)))))) (pss_one (ps_ret pe_bl)) pss_nil) (pss_cons (ps_if (pt_not (pt_val (pe_call G__law_forces_right.ok (hr.mono (by decide)) rfl G__law_forces_right.m G__law_forces_right.kp G__law_forces_right.b .nil pass0 (pa_cons (pv 1) (pa_cons (pv 2) (pa_cons (pv 3) (pa_cons (pe_tup (pa_cons (pv 4) (pa_cons (pv 5) pa_nil))) pa_nil))))))) (pss_one (ps_ret pe_bl)) pss_nil) (pss_cons (ps_if (PW.pt (pw_or (pt_cmpR (op_neO Z.nf Z.ne Z.ob G_eq.mt.at_ G_eq.mt.fn G_eq.ok (hr.mono (by decide)) G_eq.b) (pe_invS (E := fun _ => E0) G_invert.mt.at_ G_invert.mt.fn G_invert.ok (hr.mono (by decide)) G_invert.b (fun _ => passAt0) (pe_binS (E := fun _ => E0) Z.sf G_or.mt.at_ G_or.mt.fn G_or.ok (hr.mono (by decide)) G_or.b (fun _ => passAtL) (pv 4) (pv 5))) (pe_binS (E := fun _ => E0) Z.sf G_and.mt.at_ G_and.mt.fn G_and.ok (hr.mono (by decide)) G_and.b (fun _ => passAtL) (pe_invS (E := fun _ => E0) G_invert.mt.at_ G_invert.mt.fn G_invert.ok (hr.mono (by decide)) G_invert.b (fun _ => passAt0) (pv 4)) (pe_invS (E := fun _ => E0) G_invert.mt.at_ G_invert.mt.fn G_invert.ok (hr.mono (by decide)) G_invert.b (fun _ => passAt0) (pv 5))) (nomark _)) (pw_or (pt_cmpR (op_neO Z.nf Z.ne Z.ob G_eq.mt.at_ G_eq.mt.fn G_eq.ok (hr.mono (by decide)) G_eq.b) (pe_invS (E := fun _ => E0) G_invert.mt.at_ G_invert.mt.fn G_invert.ok (hr.mono (by decide)) G_invert.b (fun _ => passAt0) (pe_binS (E := fun _ => E0) Z.sf G_and.mt.at_ G_and.mt.fn G_and.ok (hr.mono (by decide)) G_and.b (fun _ => passAtL) (pv 4) (pv 5))) (pe_binS (E := fun _ => E0) Z.sf G_or.mt.at_ G_or.mt.fn G_or.ok (hr.mono (by decide)) G_or.b (fun _ => passAtL) (pe_invS (E := fun _ => E0) G_invert.mt.at_ G_invert.mt.fn G_invert.ok (hr.mono (by decide)) G_invert.b (fun _ => passAt0) (pv 4)) (pe_invS (E := fun _ => E0) G_invert.mt.at_ G_invert.mt.fn G_invert.ok (hr.mono (by decide)) G_invert.b (fun _ => passAt0) (pv 5))) (nomark _)) (pw_or (pt_cmpR (op_neO Z.nf Z.ne Z.ob G_eq.mt.at_ G_eq.mt.fn G_eq.ok (hr.mono (by decide)) G_eq.b) (pe_binS (E := fun _ => E0) Z.sf G_or.mt.at_ G_or.mt.fn G_or.ok (hr.mono (by decide)) G_or.b (fun _ => passAtL) (pv 4) (pv 5)) (pe_binS (E := fun _ => E0) Z.sf G_or.mt.at_ G_or.mt.fn G_or.ok (hr.mono (by decide)) G_or.b (fun _ => passAtL) (pv 5) (pv 4)) (nomark _)) (pw_or1 (pt_cmpR (op_neO Z.nf Z.ne Z.ob G_eq.mt.at_ G_eq.mt.fn G_eq.ok (hr.mono (by decide)) G_eq.b) (pe_binS (E := fun _ => E0) Z.sf G_and.mt.at_ G_and.mt.fn G_and.ok (hr.mono (by decide)) G_and.b (fun _ => passAtL) (pv 4) (pv 5)) (pe_binS (E := fun _ => E0) Z.sf G_and.mt.at_ G_and.mt.fn G_and.ok (hr.mono (by decide)) G_and.b (fun _ => passAtL) (pv 5) (pv 4)) (nomark _))))))) (pss_one (ps_ret pe_bl)) pss_nil) (pss_cons (ps_if (PW.pt (pw_or (pt_cmpR (op_neO Z.nf Z.ne Z.ob G_eq.mt.at_ G_eq.mt.fn G_eq.ok (hr.mono (by decide)) G_eq.b) (pe_binS (E := fun _ => E0) Z.sf G_or.mt.at_ G_or.mt.fn G_or.ok (hr.mono (by decide)) G_or.b (fun _ => passAtL) (pv 4) (pv 4)) (pv 4) (nomark _)) (pw_or (pt_cmpR (op_neO Z.nf Z.ne Z.ob G_eq.mt.at_ G_eq.mt.fn G_eq.ok (hr.mono (by decide)) G_eq.b) (pe_binS (E := fun _ => E0) Z.sf G_and.mt.at_ G_and.mt.fn G_and.ok (hr.mono (by decide)) G_and.b (fun _ => passAtL) (pv 4) (pe_binS (E := fun _ => E0) Z.sf G_or.mt.at_ G_or.mt.fn G_or.ok (hr.mono (by decide)) G_or.b (fun _ => passAtL) (pv 4) (pv 5))) (pv 4) (nomark _)) (pw_or1 (pt_cmpR op_isnot_bl (pe_methK Z.cl G_covers.mt G_covers.ok (hr.mono (by decide)) kbC passL (pe_binS (E := fun _ => E0) Z.sf G_or.mt.at_ G_or.mt.fn G_or.ok (hr.mono (by decide)) G_or.b (fun _ => passAtL) (pv 4) (pv 5)) (pv 4)) pe_bl (nomark _)))))) (pss_one (ps_ret pe_bl)) pss_nil) (pss_cons (ps_set (i := 7) scLaw.nd rfl (Or.inl rfl) (pe_call G__law_dual.ok (hr.mono (by decide)) rfl G__law_dual.m G__law_dual.kp G__law_dual.b .nil pass0 (pa_cons (pv 2) (pa_cons (pe_ix (ix_listK K rfl) (pv 3) pe_int (fun _ _ => rfl)) pa_nil)))) (pss_cons (ps_for PassesOwn.never rfl (pi_listK K rfl (pe_lst (pa_cons (pe_tup (pa_cons (pv 5) (pa_cons (pe_ix (ix_listK K rfl) (pv 3) pe_int (fun _ _ => rfl)) pa_nil))) (pa_cons (pe_tup (pa_cons (pv 4) (pa_cons (pe_ix (ix_listK K rfl) (pv 3) pe_int (fun _ _ => rfl)) pa_nil))) (pa_cons (pe_tup (pa_cons (pe_invS (E := fun _ => E0) G_invert.mt.at_ G_invert.mt.fn G_invert.ok (hr.mono (by decide)) G_invert.b (fun _ => passAt0) (pv 4)) (pa_cons (pv 7) pa_nil))) (pa_cons (pe_tup (pa_cons (pv 5) (pa_cons (pe_ix (ix_listK K rfl) (pv 3) pe_int (fun _ _ => rfl)) pa_nil))) pa_nil)))))) (pg_tup rfl (pgs_cons (pg_name (i := 8) scLaw.nd rfl (Or.inl rfl)) (pgs_cons (pg_name (i := 9) scLaw.nd rfl (Or.inl rfl)) pgs_nil))) (pss_one (ps_if (pt_cmpR op_ne (pe_meth (pv 4) Z.cl G_covers.mt G_covers.ok (hr.mono (by decide)) G_covers.b .nil passL (pa_cons (pv 8) pa_nil)) (pe_call G__law_covers.ok (hr.mono (by decide)) rfl G__law_covers.m G__law_covers.kp G__law_covers.b .nil pass0 (pa_cons (pv 2) (pa_cons (pe_ix (ix_listK K rfl) (pv 3) pe_int (fun _ _ => rfl)) (pa_cons (pv 9) pa_nil)))) (nomark _)) (pss_one (ps_ret pe_bl)) pss_nil))) (pss_cons (ps_for PassesOwn.never rfl (pi_listK K rfl (pe_lst (pa_cons (pe_tup (pa_cons (pv 4) (pa_cons (pe_ix (ix_listK K rfl) (pv 3) pe_int (fun _ _ => rfl)) pa_nil))) (pa_cons (pe_tup (pa_cons (pv 5) (pa_cons (pe_ix (ix_listK K rfl) (pv 3) pe_int (fun _ _ => rfl)) pa_nil))) (pa_cons (pe_tup (pa_cons (pv 4) (pa_cons (pe_ix (ix_listK K rfl) (pv 3) pe_int (fun _ _ => rfl)) pa_nil))) pa_nil))))) (pg_tup rfl (pgs_cons (pg_name (i := 10) scLaw.nd rfl (Or.inl rfl)) (pgs_cons (pg_name (i := 9) scLaw.nd rfl (Or.inl rfl)) pgs_nil))) (pss_cons (ps_set (i := 11) scLaw.nd rfl (Or.inl rfl) (pe_cmpR (op_eqPK K rfl hr.units) (pe_call G__law_dual.ok (hr.mono (by decide)) rfl G__law_dual.m G__law_dual.kp G__law_dual.b .nil pass0 (pa_cons (pv 2) (pa_cons (pv 9) pa_nil))) (pe_call G__law_least.ok (hr.mono (by decide)) rfl G__law_least.m G__law_least.kp G__law_least.b .nil pass0 (pa_cons (pv 2) (pa_cons (pv 9) pa_nil))) (nomark _))) (pss_one (ps_if (PW.pt (pw_or (pt_not (pt_val (pe_callB (call_isiN K rfl) (by rfl) T.b_isinstance (by decide +kernel) (pa_cons (pe_prop (pv 10) Z.cl G_even.pr G_even.ok (hr.mono (by decide)) G_even.b .nil pass0 rfl) (pa_cons (pe_bltn (v := .ty "bool") (by rfl) T.b_bool (by decide +kernel) rfl) pa_nil))))) (pw_or1 (pt_cmpR op_ne (pe_prop (pv 10) Z.cl G_even.pr G_even.ok (hr.mono (by decide)) G_even.b .nil pass0 rfl) (pv 11) (nomark _))))) (pss_one (ps_ret pe_bl)) pss_nil)))) (pss_one (ps_ret (pe_and (pe_call G__law_apart.ok (hr.mono (by decide)) rfl G__law_apart.m G__law_apart.kp G__law_apart.b .nil pass0 (pa_cons (pv 2) (pa_cons (pv 4) pa_nil))) (pe_one (pe_cmpR (op_eqPK K rfl hr.units) (pe_prop (pv 4) Z.cl G_sets.pr G_sets.ok (hr.mono (by decide)) G_sets.b .nil pass0 rfl) (pe_callTy (call_tupleK K rfl) (by rfl) T.b_tuple (by decide +kernel) (pa_cons (pe_call G__law_least.ok (hr.mono (by decide)) rfl G__law_least.m G__law_least.kp G__law_least.b .nil pass0 (pa_cons (pv 2) (pa_cons (pe_ix (ix_listK K rfl) (pv 3) pe_int (fun _ _ => rfl)) pa_nil))) pa_nil)) (nomark _))))))))))))))))))))))), ?_⟩
    refine ⟨_, rfl, sa, ns, rfl, hsc, hns, fun H1 st hS1 => ?_⟩
    refine ⟨_, rfl, _, rfl, st, 6, 0, H, rfl, by decide, by decide, by decide, hS1, fun H2 d h0 h1 hS2 => ?_⟩
    refine ⟨_, _, rfl, rfl, st, 1 + d, 1, H, rfl, hS2, by decide, by omega, by omega, fun H3 J3 q3 N0 hS3 k3 hN3 hg => ?_⟩
    have hlen : (1 + d).toNat = N0.length := hg.len.symm
    refine .inl ⟨q3, N0, rfl, SqL.of (hS3.1 _ _ hN3), by omega, fun N p hp hsrt hfr => ?_⟩
    have ok := hg.ok hp hsrt (by omega) (by omega)
    have hS4 := hS3.new (o := .lst (N.map V.str)) hfr
    have k4 := Same.trans k3 (hS3.newS (o := .lst (N.map V.str)) hfr)
    have hN4 : LNm (upd J3 p (.lst (N.map V.str))) p N := upd_same
    generalize upd J3 p (.lst (N.map V.str)) = J4 at hS4 k4 hN4
    generalize upd H3 p (.lst (N.map V.str)) = H4 at hS4 ⊢
    have hn1 := ok.lo
    have hn6 := ok.hi
    -- the families
    refine ⟨2, rfl, by decide, by decide, fun D hD => ?_⟩
    have hDJ := hS4.1.free hD
    refine lc_range (n := 2) (fun i H' => ∃ (J : Hp) (vs : List V) (Fs : List (List (List Str))), StAt J H' st (101 + 110 * i) ∧ Same J4 J ∧ J D = some (.lst vs) ∧ vs.length = i ∧ FRs N J vs Fs)
      ⟨_, [], [], (hS4.new hD).more (by omega), hS4.newS hD, upd_same, rfl, .nil⟩ ?_ ?_
    · rintro i H' hi ⟨J, vs, Fs, hS5, k5, hD5, hl5, hv5⟩
      refine ⟨rfl, _, rfl, _, rfl, _, rfl, st, 6, _, J, rfl, by decide, by decide, by omega, hS5, fun H6 d h0 h1 hS6 => ?_⟩
      refine ⟨_, _, rfl, rfl, st, p, N, 1 + d, _, J, rfl, hS6, by omega, k5 _ _ hN4, hn1, hn6, by omega, by omega, fun H7 J7 q7 F7 hS7 k7 hq7 hl7 hF7 => ?_⟩
      have ok7 : FamOk N F7 := ⟨fun e => by rw [e] at hl7; simp at hl7; omega, hF7, by omega⟩
      have hv7 := hv5.mono k7
      have hD7 := k7 _ _ hD5
      have hv8 : FRs N J7 (vs ++ [.ref q7]) (Fs ++ [F7]) := hv7.snoc ⟨q7, rfl, hq7, ok7, by omega⟩
      exact ⟨vs, hS7.1 _ _ hD7, by rw [sizeLine_eq]; omega, _, vs ++ [.ref q7], Fs ++ [F7], (hS7.set hD7).more (by omega), Same.upd_after (Same.trans k5 k7) hDJ, upd_same, by rw [List.length_append, hl5]; rfl, hv7.set hD7 hv8⟩
    · rintro H5 ⟨J5, vs, Fs, hS5, k5, hD5, hl5, hv5⟩
      obtain ⟨f1, f20, F1, F20, rfl, rfl, hF1, ok1, hF20, ok20, hb1⟩ : ∃ f1 f2 F1 F2, vs = [.ref f1, .ref f2] ∧ Fs = [F1, F2] ∧ LsA J5 f1 F1 ∧ FamOk N F1 ∧ LsA J5 f2 F2 ∧ FamOk N F2 ∧ F1.length ≤ 64 := by
        cases hv5 with
        | nil => cases hl5
        | cons r1 t =>
          cases t with
          | nil => cases hl5
          | cons r2 t =>
            cases t with
            | nil =>
              obtain ⟨a, e, h1, h2, h2b⟩ := r1
              obtain ⟨b, e', h3, h4, _⟩ := r2
              exact ⟨a, b, _, _, by rw [e, e'], rfl, h1, h2, h3, h4, h2b⟩
            | cons _ _ => simp at hl5
      have hN5 := k5 _ _ hN4
      clear hl5 hv5 k3 hN3 hS3 hS2 hS1 hS4 hN4 k4
      refine ⟨_, rfl, st, 3, _, J5, rfl, by decide, by decide, by omega, hS5, fun H6 d _ _ hS6 => ⟨rfl, _, rfl, ?_⟩⟩
      refine' if_both (fun H' => ∃ (J : Hp) (f2 : Addr) (F2 : List (List Str)), StAt J H' st 400 ∧ LNm J p N ∧ J D = some (.lst [.ref f1, .ref f2]) ∧ LsA J f1 F1 ∧ LsA J f2 F2 ∧ FamOk N F2) ?B ?A ?C
      case B => exact fun h _ => h H6 ⟨J5, f20, F20, hS6.more (by omega), hN5, hD5, hF1, hF20, ok20⟩
      case A =>
        intro h _
        have hD6 := hS6.1 _ _ hD5
        obtain ⟨vs1, e1, ts1⟩ := id hF1
        obtain ⟨vs2, e2, ts2⟩ := id hF20
        refine ⟨_, rfl, D, _, 0, _, rfl, rfl, SqL.of hD6, at0, _, rfl, D, _, 1, _, rfl, rfl, SqL.of hD6, at1, _, rfl, f20, vs2, rfl, SqL.of (hS6.1 _ _ e2), fun r1 hr1 => ?_⟩
        rw [cut1]
        have hS7 := hS6.new (o := .lst (vs2.take 1)) hr1
        have k7 := hS6.newS (o := .lst (vs2.take 1)) hr1
        refine ⟨f1, r1, vs1, vs2.take 1, rfl, rfl, (same_upd hr1) _ _ (hS6.1 _ _ e1), upd_same, ?_, fun r2 hr2 => ?_⟩
        · have := ts1.len
          rw [List.length_take]
          exact w4k (by omega)
        · have hS8 := hS7.new (o := .lst (vs1 ++ vs2.take 1)) hr2
          have k8 := Same.trans k7 (hS7.newS (o := .lst (vs1 ++ vs2.take 1)) hr2)
          have e8 : LsA (upd (upd J5 r1 (.lst (vs2.take 1))) r2 (.lst (vs1 ++ vs2.take 1))) r2 (F1 ++ F20.take 1) := ⟨_, upd_same, TSs.app (ts1.mono k8) ((ts2.mono k8).take 1)⟩
          generalize upd (upd J5 r1 (.lst (vs2.take 1))) r2 (.lst (vs1 ++ vs2.take 1)) = J8 at hS8 k8 e8
          have hD8 := k8 _ _ hD5
          have hF18 := hF1.mono k8
          have ok8 : FamOk N (F1 ++ F20.take 1) := ⟨by simp [ok1.ne], fun c hc => (List.mem_append.mp hc).elim (ok1.sb c) fun h => ok20.sb c (List.mem_of_mem_take h), by
            rw [List.length_append, List.length_take]
            omega⟩
          have n1 := fam2_ne hF18 ok1.ne hD8 hF18 ok1
          have n2 := fam2_ne e8 ok8.ne hD8 hF18 ok1
          exact ⟨_, rfl, D, _, 1, 1, rfl, rfl, hS8.1 _ _ hD8, rfl, h _ ⟨_, r2, _, (hS8.set hD8).more (by omega), lst_ne hD8 (k8 _ _ hN5), upd_same, hF18.updL hD8 n1, e8.updL hD8 n2, ok8⟩⟩
      case C =>
        clear hF20 ok20 hN5 hD5 hF1 hS5 k5 hS6 hD
        rintro H7 ⟨J7, f2, F2, hS7, hN7, hD7, hF17, hF27, ok2⟩
        refine ⟨_, rfl, st, 5, _, J7, rfl, by decide, by decide, by omega, hS7, fun H8 d8 _ _ hS8 => ⟨rfl, _, rfl, ?_⟩⟩
        refine' if_both (fun H' => ∃ (J : Hp) (f2 : Addr) (F2 : List (List Str)), StAt J H' st 500 ∧ LNm J p N ∧ J D = some (.lst [.ref f1, .ref f2]) ∧ LsA J f1 F1 ∧ LsA J f2 F2 ∧ FamOk N F2) ?B2 ?A2 ?C2
        case B2 => exact fun h _ => h H8 ⟨J7, f2, F2, hS8.more (by omega), hN7, hD7, hF17, hF27, ok2⟩
        case A2 =>
          intro h _
          refine ⟨_, rfl, _, rfl, D, _, 0, _, rfl, rfl, SqL.of (hS8.1 _ _ hD7), at0, p, f1, N, F1, rfl, hS8.1 _ _ hN7, hF17.mono hS8.1, hn6, ok1.len, ok1.le ok, fun H9 q9 s9 hq9 hL9 => ?_⟩
          obtain ⟨J9, hJ9, k9, a3, a4, a5⟩ := hS8.lift s9
          have hL9 := hL9.lift a3 a5 hq9
          have okm := (meets_pl ok ok1).fam
          have hD9 := k9 _ _ hD7
          have hF19 := hF17.mono k9
          have n1 := fam2_ne hF19 ok1.ne hD9 hF19 ok1
          have n2 := fam2_ne hL9 okm.ne hD9 hF19 ok1
          exact ⟨_, rfl, D, _, 1, 1, rfl, rfl, hJ9.1 _ _ hD9, rfl, h _ ⟨_, q9, _, (hJ9.set hD9).more (by omega), lst_ne hD9 (k9 _ _ hN7), upd_same, hF19.updL hD9 n1, hL9.updL hD9 n2, okm⟩⟩
        case C2 =>
          clear hS7 hN7 hD7 hF17 hF27 ok2 hS8
          rintro H9 ⟨J9, f3, F3, hS9, hN9, hD9, hF19, hF39, ok3⟩
          -- the powers
          have hN := hS9.1 _ _ hN9
          have hD := hS9.1 _ _ hD9
          have hF1 := hF19.mono hS9.1
          have hF3 := hF39.mono hS9.1
          refine ⟨_, rfl, D, rfl, ⟨_, SqL.of hD⟩, fun L hL => ?_⟩
          refine lc_list (K := K) (xs := [.ref f1, .ref f3]) (CI _ L fun i H' acc => Paired (fun v F => PowAt Z.C H' v N (G N (KM.forced F))) acc ([F1, F3].take i))
            (CI.start hL .nil) (fun i H' _ z => SqL.of (z.1 _ _ hD)) ?_ ?_
          · rintro i x H10 hi ⟨z10, acc, hL10, hal, hpa⟩
            obtain ⟨g, FF, rfl, hg, hgF, okF⟩ : ∃ g FF, x = .ref g ∧ [F1, F3][i]? = some FF ∧ LsA H9 g FF ∧ FamOk N FF := by
              match i, hi with
              | 0, hi => cases hi; exact ⟨f1, F1, rfl, rfl, hF1, ok1⟩
              | 1, hi => cases hi; exact ⟨f3, F3, rfl, rfl, hF3, ok3⟩
            have hil : i < 2 := (List.getElem?_eq_some_iff.mp hg).1
            refine ⟨rfl, _, rfl, _, rfl, fun x dx hx hdx hne => make_at (C := Z.C) (.inl ⟨z10 _ _ hN, hgF.mono z10⟩) ok okF.ne okF.len okF.sb hx hdx hne fun H11 s11 hp => ⟨rfl, ?_⟩⟩
            rw [fam_mini ok okF] at hp
            have hL11 := s11 _ _ hL10
            refine CI.more hL (by rw [sizeLine_eq]; omega) (Same.trans z10 s11) hL11 hal ?_
            rw [take_snoc hg]
            exact _root_.L2.K25.Paired.snocR (Paired.mapP hpa fun _ _ r => (r.mono s11).updL hL11) (hp.updL hL11)
          · rintro H10 ⟨z10, acc, hL10, _, hpa⟩
            obtain ⟨u, v, rfl, hu, hv⟩ : ∃ u v, acc = [u, v] ∧ PowAt Z.C H10 u N (G N (KM.forced F1)) ∧ PowAt Z.C H10 v N (G N (KM.forced F3)) := by
              cases hpa with
              | cons r1 t =>
                cases t with
                | cons r2 t =>
                  cases t with
                  | nil => exact ⟨_, _, rfl, r1, r2⟩
            refine ⟨L, [u, v], rfl, SqL.of hL10, rfl, _, _, rfl, _, _, rfl, rfl, ?_⟩
            obtain ⟨J10, hS10, k10, a3, a4, _⟩ := hS9.lift z10
            have hJX : LC Z.C J10 p D f1 f3 u v N F1 F3 := ⟨k10 _ _ hN9, k10 _ _ hD9, hF19.mono k10, hF39.mono k10, hu.lift a3 a4, hv.lift a3 a4⟩
            clear hL10 hpa hL hS9 hN hD hF1 hF3 z10
            have hX := hJX.mono hS10.1
            clear hu hv a3 a4 k10 hN9 hD9 hF19 hF39
            have pl1 := fam_pl ok ok1
            have pl3 := fam_pl ok ok3
            -- due
            refine ⟨_, rfl, _, rfl, D, _, 0, _, rfl, rfl, SqL.of hX.hfa, at0, _, rfl, D, _, 1, _, rfl, rfl, SqL.of hX.hfa, at1, p, f1, f3, N, F1, F3, false, rfl, hX.hN, hX.hF1, hX.hF2, hn6, ok1.le ok, ok3.le ok, fun H11 t1 s11 ht1 => ⟨(by show 2 ≤ sizeLine; decide), fun d1 hd1 => ⟨(by show 1 ≤ sizeLine; decide), fun du hdu => ?_⟩⟩⟩
            have s12 := same_upd (o := .lst [.str "power", .ref t1]) hd1
            have hT1 : TLst (upd H11 d1 (.lst [.str "power", .ref t1])) d1 (.pw (G N fun c => KM.forced F1 c || KM.forced F3 c)) := ⟨_, upd_same, t1, rfl, ht1.mono s12⟩
            generalize upd H11 d1 (.lst [.str "power", .ref t1]) = H12 at s12 hT1 hdu ⊢
            have n1 : d1 ≠ du := by
              obtain ⟨_, e, _⟩ := hT1
              exact ne_of_none e hdu
            have s13 := same_upd (o := .lst [.ref d1]) hdu
            have z13 := Same.trans s11 (Same.trans s12 s13)
            have hT1 := hT1.mono s13
            have hduX := (Same.trans s11 s12).free hdu
            have edu : upd H12 du (.lst [.ref d1]) du = some (.lst [.ref d1]) := upd_same
            generalize upd H12 du (.lst [.ref d1]) = H13 at s13 z13 hT1 edu ⊢
            clear s11 s12 s13 ht1 hdu hd1
            have hX13 := hX.mono z13
            refine ⟨_, rfl, .inl ⟨rfl, _, SqL.of edu⟩, _, rfl, _, rfl, D, _, 0, _, rfl, rfl, SqL.of hX13.hfa, at0, _, rfl, D, _, 1, _, rfl, rfl, SqL.of hX13.hfa, at1, p, f1, f3, N, F1, F3, true, rfl, hX13.hN, hX13.hF1, hX13.hF2, hn6, ok1.le ok, ok3.le ok, fun H14 t2 s14 ht2 => ⟨(by show 2 ≤ sizeLine; decide), fun d2 hd2 => ?_⟩⟩
            have s15 := same_upd (o := .lst [.str "power", .ref t2]) hd2
            have hT2 : TLst (upd H14 d2 (.lst [.str "power", .ref t2])) d2 (.pw (G N fun c => KM.forced F1 c && KM.forced F3 c)) := ⟨_, upd_same, t2, rfl, ht2.mono s15⟩
            have z15 := Same.trans s14 s15
            have n2 : d2 ≠ du := (ne_of_none (s14 _ _ edu) hd2).symm
            generalize upd H14 d2 (.lst [.str "power", .ref t2]) = H15 at s15 hT2 z15 ⊢
            have edu15 := z15 _ _ edu
            refine ⟨du, _, .ref d2, rfl, rfl, edu15, (by show 1 < sizeLine; decide), ?_⟩
            have hT1 := (hT1.mono z15).updL (ys := [.ref d1] ++ [.ref d2]) edu15 n1
            have hT2 := hT2.updL (ys := [.ref d1] ++ [.ref d2]) edu15 n2
            have z16 := same_set (o := .lst ([.ref d1] ++ [.ref d2])) (Same.trans z13 z15) hduX
            have edu16 : upd H15 du (.lst ([.ref d1] ++ [.ref d2])) du = some (.lst [.ref d1, .ref d2]) := upd_same
            generalize upd H15 du (.lst ([.ref d1] ++ [.ref d2])) = H16 at hT1 hT2 z16 edu16 ⊢
            clear z13 z15 s14 s15 ht2 hd2 edu edu15 hX13
            have hX16 := hX.mono z16
            refine ⟨_, rfl, .inl ⟨rfl, _, SqL.of edu16⟩, _, rfl, _, rfl, D, _, 0, _, rfl, rfl, SqL.of hX16.hfa, at0, _, rfl, D, _, 1, _, rfl, rfl, SqL.of hX16.hfa, at1, p, f1, f3, N, F1, F3, rfl, hX16.hN, hX16.hF1, hX16.hF2, hn6, ok1.le ok, ok3.le ok, fun H17 s17 => ⟨(by show 2 ≤ sizeLine; decide), fun d3 hd3 => ?_⟩⟩
            generalize hcov : ((KM.allS rle N).all fun c => !(KM.forced F3 c) || KM.forced F1 c) = cov at hd3 ⊢
            have s18 := same_upd (o := .lst [.str "covers", .bl cov]) hd3
            have hT3 : TLst (upd H17 d3 (.lst [.str "covers", .bl cov])) d3 (.cv cov) := ⟨_, upd_same, rfl⟩
            have z18 := Same.trans s17 s18
            have n3 : d3 ≠ du := (ne_of_none (s17 _ _ edu16) hd3).symm
            generalize upd H17 d3 (.lst [.str "covers", .bl cov]) = H18 at s18 hT3 z18 ⊢
            have edu18 := z18 _ _ edu16
            refine ⟨du, _, .ref d3, rfl, rfl, edu18, (by show 2 < sizeLine; decide), ?_⟩
            have hT1 := (hT1.mono z18).updL (ys := [.ref d1, .ref d2] ++ [.ref d3]) edu18 n1
            have hT2 := (hT2.mono z18).updL (ys := [.ref d1, .ref d2] ++ [.ref d3]) edu18 n2
            have hT3 := hT3.updL (ys := [.ref d1, .ref d2] ++ [.ref d3]) edu18 n3
            have z19 := same_set (o := .lst ([.ref d1, .ref d2] ++ [.ref d3])) (Same.trans z16 z18) hduX
            have edu19 : upd H18 du (.lst ([.ref d1, .ref d2] ++ [.ref d3])) du = some (.lst [.ref d1, .ref d2, .ref d3]) := upd_same
            generalize upd H18 du (.lst ([.ref d1, .ref d2] ++ [.ref d3])) = H19 at hT1 hT2 hT3 z19 edu19 ⊢
            clear z18 z16 edu16 edu18 s17 s18 hd3 hX16 hduX
            have hX19 := hX.mono z19
            -- told
            refine ⟨3, rfl, by decide, by decide, fun L2 hL2 => ?_⟩
            refine lc_range (n := 3) (CI _ L2 fun i H' acc => Paired (TRn L2 H') acc ((List.range i).map fun j : Nat => toldOf (0 + (j : Int)) N N (G N (KM.forced F1)) (G N (KM.forced F3)))) (CI.start hL2 .nil) ?_ ?_
            · rintro i H20 hi ⟨z20, acc, hL20, hal, hpa⟩
              refine ⟨rfl, _, rfl, _, rfl, _, rfl, 0 + (i : Int), u, v, N, N, _, _, rfl, hX19.hu.mono z20, hX19.hv.mono z20, pl1, pl3, fun H21 q21 s21 hq21 ht21 => ?_⟩
              have hL21 := s21 _ _ hL20
              refine CI.more hL2 (by rw [sizeLine_eq]; omega) (Same.trans z20 s21) hL21 hal ?_
              rw [List.range_succ, List.map_append]
              have nq : q21 ≠ L2 := (ne_of_none hL20 hq21).symm
              exact _root_.L2.K25.Paired.snocR (Paired.mapP hpa fun _ _ r => (r.mono s21).updL hL21) ⟨q21, rfl, nq, ht21.updL hL21 nq⟩
            · rintro H20 ⟨z20, acc, hL20, _, hpa⟩
              rw [tolds, hcov] at hpa
              have hw : Paired (TRn du H20) [.ref d1, .ref d2, .ref d3] [.pw (G N fun c => KM.forced F1 c || KM.forced F3 c), .pw (G N fun c => KM.forced F1 c && KM.forced F3 c), .cv cov] :=
                .cons ⟨d1, rfl, n1, hT1.mono z20⟩ (.cons ⟨d2, rfl, n2, hT2.mono z20⟩ (.cons ⟨d3, rfl, n3, hT3.mono z20⟩ .nil))
              refine ⟨_, rfl, tolds_ne hL20 (z20 _ _ edu19) hpa hw ⟨_, rfl, iteF ?_⟩⟩
              have hX20 := hX19.mono z20
              have zz20 := Same.trans z19 z20
              clear hpa hw hL20 hT1 hT2 hT3 z20 z19 hX19 edu19
              have pw1 := Pw.fam ok ok1
              have pw3 := Pw.fam ok ok3
              have hS20 := hS10.ext zz20
              clear hS10 hX zz20
              -- ~ and ~~
              refine ⟨_, rfl, rd_inv hX20.hu pl1 fun H21 w1 s21 hw1 => rd_sets hw1 fun t1 ht1 => ⟨_, rfl, _, rfl, D, _, 0, _, rfl, rfl, SqL.of (s21 _ _ hX20.hfa), at0, p, f1, N, F1, rfl, s21 _ _ hX20.hN, hX20.hF1.mono s21, hn6, ok1.len, ok1.le ok, fun H22 q22 s22 hq22 hL22 => ?_⟩⟩
              rw [meets_G ok1] at ht1
              obtain ⟨ls, e22, hls⟩ := hL22
              refine ⟨q22, ls, rfl, .inl ⟨SqL.of e22, fun t2 ht2 => ?_⟩⟩
              have s23 := same_upd (o := .tup ls) ht2
              refine neTs ((ht1.mono s22).mono s23) ⟨_, upd_same, hls.mono s23⟩ ⟨_, rfl, ?_⟩
              rw [decide_eq_true rfl]
              have z23 := Same.trans s21 (Same.trans s22 s23)
              generalize upd H22 t2 (.tup ls) = H23 at z23 ⊢
              have hX23 := hX20.mono z23
              refine iteF ⟨_, rfl, rd_inv hX23.hu pl1 fun H24 w2 s24 hw2 => rd_out hw2 fun t3 ht3 => ⟨_, rfl, p, _, rfl, .inl ⟨SqL.of (s24 _ _ hX23.hN), fun t4 ht4 => ?_⟩⟩⟩
              have s25 := same_upd (o := .tup (N.map V.str)) ht4
              refine neT (c := N) (d := N) (ht3.ts.mono s25) ⟨t4, rfl, upd_same⟩ ⟨_, rfl, ?_⟩
              rw [decide_eq_true rfl]
              have z25 := Same.trans z23 (Same.trans s24 s25)
              generalize upd H24 t4 (.tup (N.map V.str)) = H25 at z25 ⊢
              have hX25 := hX20.mono z25
              refine iteF ⟨_, rfl, rd_inv hX25.hu pl1 fun H26 w3 s26 hw3 => rd_inv hw3 pl1.meets fun H27 w4 s27 hw4 => ?_⟩
              rw [pw1.inv2] at hw4
              have z27 := Same.trans z25 (Same.trans s26 s27)
              have hX27 := hX20.mono z27
              refine ⟨_, rfl, rd_ne hw4 hX27.hu ⟨_, rfl, iteF ?_⟩⟩
              have hS27 := hS20.ext z27
              clear hS20 hX20 z27 z25 z23 s21 s22 s23 s24 s25 s26 s27 hw1 hw2 hw3 hw4 ht1 ht2 ht3 ht4 hX23 hX25 hls e22 hq22
              -- forces_right
              refine ⟨_, rfl, _, rfl, _, rfl, _, rfl, _, rfl, (by show 2 ≤ sizeLine; decide), fun pr hpr => ?_⟩
              have hS28 := hS27.new (o := .tup [u, v]) hpr
              have k28 := hS27.newS (o := .tup [u, v]) hpr
              refine ⟨st, p, D, pr, f1, f3, u, v, N, F1, F3, 500, _, rfl, hS28, by omega, k28 _ _ hJX.hN, ok, k28 _ _ hJX.hfa, hJX.hF1.mono k28, hJX.hF2.mono k28, ok1, ok3, upd_same, hJX.hu.mono k28, hJX.hv.mono k28, fun H29 J29 hS29 k29 => ?_⟩
              have hX29 := (hJX.mono (Same.trans k28 k29)).mono hS29.1
              clear hS28 k28 k29 hS29 hS27 hpr hX27 hJX
              -- De Morgan
              refine ⟨true, rfl, iteF ⟨_, rfl, _, rfl, rd_bin hX29.hu hX29.hv pl1 pl3 fun Ha wa sa ha => rd_inv ha (pw1.or pw3).pl fun Hb wb sb hb => ?_⟩⟩
              rw [mor1 pl1.fam pl3.fam] at hb
              have zb := Same.trans sa sb
              refine ⟨_, rfl, rd_inv (hX29.hu.mono zb) pl1 fun Hc wc s3 hc => ⟨_, rfl, rd_inv ((hX29.hv.mono zb).mono s3) pl3 fun Hd wd sd hd => rd_bin (hc.mono sd) hd pl1.meets pl3.meets fun He we se he => ?_⟩⟩
              refine rd_ne (((hb.mono s3).mono sd).mono se) he ⟨_, rfl, iteF ?_⟩
              have hX30 := hX29.mono (Same.trans zb (Same.trans s3 (Same.trans sd se)))
              clear ha hb hc hd he zb sa sb s3 sd se hX29
              refine ⟨_, rfl, _, rfl, rd_bin hX30.hu hX30.hv pl1 pl3 fun Ha wa sa ha => rd_inv ha (pw1.and pw3).pl fun Hb wb sb hb => ?_⟩
              rw [mor2 pl1.fam pl3.fam] at hb
              have zb := Same.trans sa sb
              refine ⟨_, rfl, rd_inv (hX30.hu.mono zb) pl1 fun Hc wc s3 hc => ⟨_, rfl, rd_inv ((hX30.hv.mono zb).mono s3) pl3 fun Hd wd sd hd => rd_bin (hc.mono sd) hd pl1.meets pl3.meets fun He we se he => ?_⟩⟩
              refine rd_ne (((hb.mono s3).mono sd).mono se) he ⟨_, rfl, iteF ?_⟩
              have hX31 := hX30.mono (Same.trans zb (Same.trans s3 (Same.trans sd se)))
              clear ha hb hc hd he zb sa sb s3 sd se hX30
              refine ⟨_, rfl, _, rfl, rd_bin hX31.hu hX31.hv pl1 pl3 fun Ha wa sa ha => ⟨_, rfl, _, rfl, rd_bin (hX31.hv.mono sa) (hX31.hu.mono sa) pl3 pl1 fun Hb wb sb hb => ?_⟩⟩
              refine rd_ne (ha.mono sb) (L := G N fun c => KM.forced (G N (KM.forced F1)) c || KM.forced (G N (KM.forced F3)) c) (by rw [or_comm']; exact hb) ⟨_, rfl, iteF ?_⟩
              have hX32 := hX31.mono (Same.trans sa sb)
              clear ha hb sa sb hX31
              refine ⟨_, rfl, _, rfl, rd_bin hX32.hu hX32.hv pl1 pl3 fun Ha wa sa ha => ⟨_, rfl, _, rfl, rd_bin (hX32.hv.mono sa) (hX32.hu.mono sa) pl3 pl1 fun Hb wb sb hb => ?_⟩⟩
              refine rd_ne (ha.mono sb) (L := G N fun c => KM.forced (G N (KM.forced F1)) c && KM.forced (G N (KM.forced F3)) c) (by rw [and_comm']; exact hb) ⟨_, rfl, iteF ?_⟩
              have hX33 := hX32.mono (Same.trans sa sb)
              clear ha hb sa sb hX32
              -- absorbing
              refine ⟨_, rfl, _, rfl, rd_bin hX33.hu hX33.hu pl1 pl1 fun Ha wa sa ha => ?_⟩
              have ha : PowAt Z.C Ha wa N (G N fun c => KM.forced (G N (KM.forced F1)) c || KM.forced (G N (KM.forced F1)) c) := ha
              rw [or_self' pw1] at ha
              refine ⟨_, rfl, rd_ne ha (hX33.hu.mono sa) ⟨_, rfl, iteF ?_⟩⟩
              have hX34 := hX33.mono sa
              clear ha sa hX33
              refine ⟨_, rfl, _, rfl, _, rfl, rd_bin hX34.hu hX34.hv pl1 pl3 fun Ha wa sa ha => rd_bin (hX34.hu.mono sa) ha pl1 (pw1.or pw3).pl fun Hb wb sb hb => ?_⟩
              have hb : PowAt Z.C Hb wb N (G N fun c => KM.forced (G N (KM.forced F1)) c && KM.forced (G N fun c => KM.forced (G N (KM.forced F1)) c || KM.forced (G N (KM.forced F3)) c) c) := hb
              rw [absorb' pw1] at hb
              refine ⟨_, rfl, rd_ne hb ((hX34.hu.mono sa).mono sb) ⟨_, rfl, iteF ?_⟩⟩
              have hX35 := hX34.mono (Same.trans sa sb)
              clear ha hb sa sb hX34
              refine ⟨_, rfl, _, rfl, rd_bin hX35.hu hX35.hv pl1 pl3 fun Ha wa sa ha => ?_⟩
              obtain ⟨p5, dx5, n5, t5, e5, hp5, _⟩ := id ha
              refine ⟨p5, dx5, _, e5, hp5, pwf_no _ _ cv_ cv2_, _, rfl, rd_cov ha (hX35.hu.mono sa) (pw1.or pw3).pl pl1 fun Hb sb => ⟨_, true, rfl, rfl, ⟨_, rfl, ?_⟩⟩⟩
              have ec : ((G N (KM.forced F1)).all (KM.forced (G N fun c => or (KM.forced (G N (KM.forced F1)) c) (KM.forced (G N (KM.forced F3)) c)))) = true := cov_or pw1
              rw [ec]
              refine iteF ?_
              have hX36 := hX35.mono (Same.trans sa sb)
              clear ha sa sb hX35 hp5 e5 ec
              -- the first pairs
              refine ⟨_, rfl, _, rfl, D, _, 0, _, rfl, rfl, SqL.of hX36.hfa, at0, p, f1, N, F1, rfl, hX36.hN, hX36.hF1, hn6, ok1.len, ok1.le ok, fun H37 dh s37 hdh hDH => ?_⟩
              have hX37 := hX36.mono s37
              refine ⟨_, rfl, _, rfl, D, _, 1, _, rfl, rfl, SqL.of hX37.hfa, at1, (by show 2 ≤ sizeLine; decide), fun a1 ha1 => ?_⟩
              have s38 := same_upd (o := .tup [v, .ref f3]) ha1
              have e1 : upd H37 a1 (.tup [v, .ref f3]) a1 = some (.tup [v, .ref f3]) := upd_same
              generalize upd H37 a1 (.tup [v, .ref f3]) = H38 at s38 e1 ⊢
              have hX38 := hX37.mono s38
              have m1 : PM Z.C H38 N (.ref a1) := ⟨a1, f3, v, F3, rfl, e1, hX38.hv, hX38.hF2, ok3⟩
              refine ⟨_, rfl, _, rfl, D, _, 0, _, rfl, rfl, SqL.of hX38.hfa, at0, (by show 2 ≤ sizeLine; decide), fun a2 ha2 => ?_⟩
              have s39 := same_upd (o := .tup [u, .ref f1]) ha2
              have e2 : upd H38 a2 (.tup [u, .ref f1]) a2 = some (.tup [u, .ref f1]) := upd_same
              generalize upd H38 a2 (.tup [u, .ref f1]) = H39 at s39 e2 ⊢
              have hX39 := hX38.mono s39
              have m2 : PM Z.C H39 N (.ref a2) := ⟨a2, f1, u, F1, rfl, e2, hX39.hu, hX39.hF1, ok1⟩
              refine ⟨_, rfl, rd_inv hX39.hu pl1 fun H40 w4 s40 hw4 => ⟨_, rfl, (by show 2 ≤ sizeLine; decide), fun a3 ha3 => ?_⟩⟩
              rw [meets_G ok1] at hw4
              have s41 := same_upd (o := .tup [w4, .ref dh]) ha3
              have e3 : upd H40 a3 (.tup [w4, .ref dh]) a3 = some (.tup [w4, .ref dh]) := upd_same
              generalize upd H40 a3 (.tup [w4, .ref dh]) = H41 at s41 e3 ⊢
              have z41 := Same.trans s40 s41
              have hX41 := hX39.mono z41
              have m3 : PM Z.C H41 N (.ref a3) := ⟨a3, dh, w4, G N (KM.meets F1), rfl, e3, by rw [GG (up_meetsD ok1)]; exact hw4.mono s41, ((hDH.mono s38).mono s39).mono z41, (meets_pl ok ok1).fam⟩
              refine ⟨_, rfl, _, rfl, D, _, 1, _, rfl, rfl, SqL.of hX41.hfa, at1, (by show 2 ≤ sizeLine; decide), fun a4 ha4 => ?_⟩
              have s42 := same_upd (o := .tup [v, .ref f3]) ha4
              have e4 : upd H41 a4 (.tup [v, .ref f3]) a4 = some (.tup [v, .ref f3]) := upd_same
              generalize upd H41 a4 (.tup [v, .ref f3]) = H42 at s42 e4 ⊢
              have hX42 := hX41.mono s42
              have m4 : PM Z.C H42 N (.ref a4) := ⟨a4, f3, v, F3, rfl, e4, hX42.hv, hX42.hF2, ok3⟩
              refine ⟨(by show 4 ≤ sizeLine; decide), fun l1 hl1 => ?_⟩
              have hm : ∀ x ∈ [V.ref a1, .ref a2, .ref a3, .ref a4], PM Z.C H42 N x := fun x hx => by
                rcases List.mem_cons.mp hx with rfl | hx
                · exact ((m1.mono s39).mono z41).mono s42
                rcases List.mem_cons.mp hx with rfl | hx
                · exact (m2.mono z41).mono s42
                rcases List.mem_cons.mp hx with rfl | hx
                · exact m3.mono s42
                rcases List.mem_cons.mp hx with rfl | hx
                · exact m4
                cases hx
              have s43 := same_upd (o := .lst [.ref a1, .ref a2, .ref a3, .ref a4]) hl1
              have e5 : upd H42 l1 (.lst [.ref a1, .ref a2, .ref a3, .ref a4]) l1 = some (.lst [.ref a1, .ref a2, .ref a3, .ref a4]) := upd_same
              generalize upd H42 l1 (.lst [.ref a1, .ref a2, .ref a3, .ref a4]) = H43 at s43 e5 ⊢
              have hX43 := hX42.mono s43
              have hm : ∀ x ∈ [V.ref a1, .ref a2, .ref a3, .ref a4], PM Z.C H43 N x := fun x hx => (hm x hx).mono s43
              clear m1 m2 m3 m4 e1 e2 e3 e4 s37 s38 s39 s40 s41 s42 z41 s43 hw4 hDH hX36 hX37 hX38 hX39 hX41 hX42 hl1 ha4 ha3 ha2 ha1 hdh
              generalize [V.ref a1, .ref a2, .ref a3, .ref a4] = prs at hm e5 ⊢
              refine ⟨l1, rfl, ⟨_, SqL.of e5⟩, for_list (K := K) (xs := prs) (fun i σ H' => (∃ x8 x9, σ = [some (.ref sa), some (.ref st), some (.ref p), some (.ref D), some u, some v, some (.ref du), some (.ref dh), x8, x9, none, none, none, none]) ∧ Same H43 H') ⟨⟨none, none, rfl⟩, Same.refl _⟩ (fun i σ H' _ z => SqL.of (z.2 _ _ e5)) ?_ ?_⟩
              · rintro i x σ H44 hi ⟨⟨x8, x9, rfl⟩, z44⟩
                obtain ⟨a, g, y, FF, rfl, ha, hy, hg, okF⟩ := (hm x (List.mem_of_getElem? hi)).mono z44
                have hX44 := hX43.mono z44
                have ply := fam_pl ok okF
                obtain ⟨p5, dx5, n5, t5, e6, hp5, _⟩ := id hX44.hu
                refine ⟨a, _, rfl, SqT.of ha, rfl, _, _, rfl, _, _, rfl, rfl, _, rfl, p5, dx5, _, e6, hp5, pwf_no _ _ cv_ cv2_, _, rfl, u, y, N, N, _, _, rfl, hX44.hu, hy, pl1, ply, fun _ H45 s45 => ?_, fun ne => absurd rfl ne⟩
                have hX45 := hX44.mono s45
                refine ⟨_, rfl, _, rfl, D, _, 0, _, rfl, rfl, SqL.of hX45.hfa, at0, _, rfl, p, f1, g, N, F1, FF, rfl, hX45.hN, hX45.hF1, hg.mono s45, hn6, ok1.le ok, okF.le ok, fun H46 s46 => ⟨rfl, _, rfl, ?_⟩⟩
                rw [covers_G, decide_eq_true rfl]
                exact iteF ⟨⟨_, _, rfl⟩, Same.trans z44 (Same.trans s45 s46)⟩
              · rintro σ H44 ⟨⟨x8, x9, rfl⟩, z44⟩
                have hX44 := hX43.mono z44
                clear hm e5 z44 hX43
                -- the second pairs
                refine ⟨_, rfl, _, rfl, D, _, 0, _, rfl, rfl, SqL.of hX44.hfa, at0, (by show 2 ≤ sizeLine; decide), fun a1 ha1 => ?_⟩
                have s38 := same_upd (o := .tup [u, .ref f1]) ha1
                have e1 : upd H44 a1 (.tup [u, .ref f1]) a1 = some (.tup [u, .ref f1]) := upd_same
                generalize upd H44 a1 (.tup [u, .ref f1]) = H45 at s38 e1 ⊢
                have hX45 := hX44.mono s38
                have m1 : PM Z.C H45 N (.ref a1) := ⟨a1, f1, u, F1, rfl, e1, hX45.hu, hX45.hF1, ok1⟩
                refine ⟨_, rfl, _, rfl, D, _, 1, _, rfl, rfl, SqL.of hX45.hfa, at1, (by show 2 ≤ sizeLine; decide), fun a2 ha2 => ?_⟩
                have s39 := same_upd (o := .tup [v, .ref f3]) ha2
                have e2 : upd H45 a2 (.tup [v, .ref f3]) a2 = some (.tup [v, .ref f3]) := upd_same
                generalize upd H45 a2 (.tup [v, .ref f3]) = H46 at s39 e2 ⊢
                have hX46 := hX45.mono s39
                have m2 : PM Z.C H46 N (.ref a2) := ⟨a2, f3, v, F3, rfl, e2, hX46.hv, hX46.hF2, ok3⟩
                refine ⟨_, rfl, _, rfl, D, _, 0, _, rfl, rfl, SqL.of hX46.hfa, at0, (by show 2 ≤ sizeLine; decide), fun a3 ha3 => ?_⟩
                have s40 := same_upd (o := .tup [u, .ref f1]) ha3
                have e3 : upd H46 a3 (.tup [u, .ref f1]) a3 = some (.tup [u, .ref f1]) := upd_same
                generalize upd H46 a3 (.tup [u, .ref f1]) = H47 at s40 e3 ⊢
                have hX47 := hX46.mono s40
                have m3 : PM Z.C H47 N (.ref a3) := ⟨a3, f1, u, F1, rfl, e3, hX47.hu, hX47.hF1, ok1⟩
                refine ⟨(by show 3 ≤ sizeLine; decide), fun l2 hl2 => ?_⟩
                have hm : ∀ x ∈ [V.ref a1, .ref a2, .ref a3], PM Z.C H47 N x := fun x hx => by
                  rcases List.mem_cons.mp hx with rfl | hx
                  · exact (m1.mono s39).mono s40
                  rcases List.mem_cons.mp hx with rfl | hx
                  · exact m2.mono s40
                  rcases List.mem_cons.mp hx with rfl | hx
                  · exact m3
                  cases hx
                have s43 := same_upd (o := .lst [.ref a1, .ref a2, .ref a3]) hl2
                have e5 : upd H47 l2 (.lst [.ref a1, .ref a2, .ref a3]) l2 = some (.lst [.ref a1, .ref a2, .ref a3]) := upd_same
                generalize upd H47 l2 (.lst [.ref a1, .ref a2, .ref a3]) = H48 at s43 e5 ⊢
                have hX48 := hX47.mono s43
                have hm : ∀ x ∈ [V.ref a1, .ref a2, .ref a3], PM Z.C H48 N x := fun x hx => (hm x hx).mono s43
                clear m1 m2 m3 e1 e2 e3 s38 s39 s40 s43 hX44 hX45 hX46 hX47 hl2 ha3 ha2 ha1
                generalize [V.ref a1, .ref a2, .ref a3] = prs2 at hm e5 ⊢
                refine ⟨l2, rfl, ⟨_, SqL.of e5⟩, for_list (K := K) (xs := prs2) (fun i σ H' => (∃ x9 x10 x11, σ = [some (.ref sa), some (.ref st), some (.ref p), some (.ref D), some u, some v, some (.ref du), some (.ref dh), x8, x9, x10, x11, none, none]) ∧ Same H48 H') ⟨⟨x9, none, none, rfl⟩, Same.refl _⟩ (fun i σ H' _ z => SqL.of (z.2 _ _ e5)) ?_ ?_⟩
                · rintro i x σ H49 hi ⟨⟨x9', x10', x11', rfl⟩, z49⟩
                  obtain ⟨a, g, y, FF, rfl, ha, hy, hg, okF⟩ := (hm x (List.mem_of_getElem? hi)).mono z49
                  have hX49 := hX48.mono z49
                  have ply := fam_pl ok okF
                  refine ⟨a, _, rfl, SqT.of ha, rfl, _, _, rfl, _, _, rfl, rfl, _, rfl, _, rfl, p, g, N, FF, rfl, hX49.hN, hg, hn6, okF.len, okF.le ok, fun Ha q1 sa1 _ hq1 => ?_⟩
                  refine ⟨_, rfl, _, rfl, p, g, N, FF, rfl, sa1 _ _ hX49.hN, hg.mono sa1, hn6, okF.le ok, fun Hb q2 sb1 _ hq2 => eqLs (hq1.mono sb1) hq2 ?_⟩
                  have zb := Same.trans sa1 sb1
                  refine ⟨_, rfl, rd_even (hy.mono zb) ply fun Hc s3 => ?_⟩
                  refine ⟨_, _, _, _, true, rfl, .ty "bool", .base (.bl _), kit_ty (by decide +kernel), true, rfl, iteF ?_⟩
                  refine ⟨_, rfl, rd_even ((hy.mono zb).mono s3) ply fun Hd sd => ⟨_, rfl, rfl, _, rfl, ?_⟩⟩
                  rw [meets_G okF, decide_eq_true rfl]
                  exact iteF ⟨⟨_, _, _, rfl⟩, Same.trans z49 (Same.trans zb (Same.trans s3 sd))⟩
                · rintro σ H49 ⟨⟨x9', x10', x11', rfl⟩, z49⟩
                  have hX49 := hX48.mono z49
                  refine ⟨_, rfl, _, rfl, p, u, N, N, _, rfl, hX49.hN, ok, hX49.hu, pl1, fun H50 s50 => ⟨true, rfl, iteT ?_⟩⟩
                  have hX50 := hX49.mono s50
                  refine ⟨_, rfl, rd_sets hX50.hu fun t1 ht1 => ⟨_, rfl, _, rfl, D, _, 0, _, rfl, rfl, SqL.of hX50.hfa, at0, p, f1, N, F1, rfl, hX50.hN, hX50.hF1, hn6, ok1.le ok, fun H51 q51 s51 _ hL51 => ?_⟩⟩
                  obtain ⟨ls, e51, hls⟩ := hL51
                  refine ⟨q51, ls, rfl, .inl ⟨SqL.of e51, fun t2 ht2 => ?_⟩⟩
                  have s52 := same_upd (o := .tup ls) ht2
                  refine eqTs ((ht1.mono s51).mono s52) ⟨_, upd_same, hls.mono s52⟩ ?_
                  rw [decide_eq_true rfl]
                  exact q _
end
end L2.K25

namespace L2.K25
open PySem PySem.Spec PyProof.Rows
/-! The chain of the promises; what the top has written. -/
theorem scGet1 : FnScope ["self"] ["self"] (defScope sPowerOutcomes) := ⟨rfl, rfl, rfl, by decide +kernel, rfl, by decide +kernel, by decide +kernel⟩
theorem scGet2 : FnScope ["self"] ["self"] (defScope sPowerSets) := ⟨rfl, rfl, rfl, by decide +kernel, rfl, by decide +kernel, by decide +kernel⟩
theorem kit_self {K : PySem.W.Frag} {C : Addr} : PySem.W.kitOne K (.ref C) (.ref C) = some true := if_pos (beq_self_eq_true _)
theorem exm_self {K : PySem.W.Frag} {S : Addr} (h1 : PySem.W.subIn K (.ref S) (.type "BaseException") = some true) (h2 : PySem.W.isClsIn K S = true) (h3 : PySem.W.typeIn K (.ref S) = some (.type "type")) (h4 : PySem.W.subIn K (.ref S) (.ref S) = some true) :
    PySem.W.exmOne K (.ref S) (.ref S) = some true := by
  have e1 : (PySem.W.subIn K (.ref S) (.type "BaseException") == some true) = true := by rw [h1] <;> rfl
  have e2 : ((PySem.W.clsIn K S).isSome && PySem.W.typeIn K (.ref S) == some (.type "type")) = true := by
    have h2' : (PySem.W.clsIn K S).isSome = true := h2
    rw [h2', h3] <;> rfl
  show (if (PySem.W.subIn K (.ref S) (.type "BaseException") == some true) = true then (if ((PySem.W.clsIn K S).isSome && PySem.W.typeIn K (.ref S) == some (.type "type")) = true then PySem.W.subIn K (.ref S) (.ref S) else none) else none) = some true
  rw [if_pos e1, if_pos e2]
  exact h4

theorem chain {P : Program} {w : World} {K : PySem.W.Frag} {mg : Str → Option Value} {base : Heap} (T : Txt K mg) (Z : PwT K mg) (Y : ExT K mg)
    {f_valid_name f_is_part f_check_number f_check_different f_set_rank f_all_sets f_is_set f_lies_in f_minimal_sets f_meet f_meets_all f_check_like f_dual_sets f__law_start f__law_draw f__law_names f__law_sets f__law_families f__law_forced f__law_least f__law_dual f__law_told f__law_joined f__law_covers f__law_unlike f__law_forces_right f__law_spots f__law_apart f_law f_forces f_covers f_eq f_invert f_or f_and f_outcomes f_sets f_even p_outcomes p_sets p_even : Addr} {d_valid_name d_is_part d_check_number d_check_different d_set_rank d_all_sets d_is_set d_lies_in d_minimal_sets d_meet d_meets_all d_check_like d_dual_sets d__law_start d__law_draw d__law_names d__law_sets d__law_families d__law_forced d__law_least d__law_dual d__law_told d__law_joined d__law_covers d__law_unlike d__law_forces_right d__law_spots d__law_apart d_law d_forces d_covers d_eq d_invert d_or d_and d_outcomes d_sets d_even d_init : FuncData}
    (F_valid_name : Fun K "valid_name" "valid_name" sValidName f_valid_name d_valid_name) (m_valid_name : mg "valid_name" = some (.ref f_valid_name))
    (F_is_part : Fun K "is_part" "is_part" sIsPart f_is_part d_is_part) (m_is_part : mg "is_part" = some (.ref f_is_part))
    (F_check_number : Fun K "check_number" "check_number" sCheckNumber f_check_number d_check_number) (m_check_number : mg "check_number" = some (.ref f_check_number))
    (F_check_different : Fun K "check_different" "check_different" sCheckDifferent f_check_different d_check_different) (m_check_different : mg "check_different" = some (.ref f_check_different))
    (F_set_rank : Fun K "set_rank" "set_rank" sSetRank f_set_rank d_set_rank) (m_set_rank : mg "set_rank" = some (.ref f_set_rank))
    (F_all_sets : Fun K "all_sets" "all_sets" sAllSets f_all_sets d_all_sets) (m_all_sets : mg "all_sets" = some (.ref f_all_sets))
    (F_is_set : Fun K "is_set" "is_set" sIsSet f_is_set d_is_set) (m_is_set : mg "is_set" = some (.ref f_is_set))
    (F_lies_in : Fun K "lies_in" "lies_in" sLiesIn f_lies_in d_lies_in) (m_lies_in : mg "lies_in" = some (.ref f_lies_in))
    (F_minimal_sets : Fun K "minimal_sets" "minimal_sets" sMinimalSets f_minimal_sets d_minimal_sets) (m_minimal_sets : mg "minimal_sets" = some (.ref f_minimal_sets))
    (F_meet : Fun K "meet" "meet" sMeet f_meet d_meet) (m_meet : mg "meet" = some (.ref f_meet))
    (F_meets_all : Fun K "meets_all" "meets_all" sMeetsAll f_meets_all d_meets_all) (m_meets_all : mg "meets_all" = some (.ref f_meets_all))
    (F_check_like : Fun K "check_like" "check_like" sCheckLike f_check_like d_check_like) (m_check_like : mg "check_like" = some (.ref f_check_like))
    (F_dual_sets : Fun K "dual_sets" "dual_sets" sDualSets f_dual_sets d_dual_sets) (m_dual_sets : mg "dual_sets" = some (.ref f_dual_sets))
    (F__law_start : Fun K "_law_start" "_law_start" sLawStart f__law_start d__law_start) (m__law_start : mg "_law_start" = some (.ref f__law_start))
    (F__law_draw : Fun K "_law_draw" "_law_draw" sLawDraw f__law_draw d__law_draw) (m__law_draw : mg "_law_draw" = some (.ref f__law_draw))
    (F__law_names : Fun K "_law_names" "_law_names" sLawNames f__law_names d__law_names) (m__law_names : mg "_law_names" = some (.ref f__law_names))
    (F__law_sets : Fun K "_law_sets" "_law_sets" sLawSets f__law_sets d__law_sets) (m__law_sets : mg "_law_sets" = some (.ref f__law_sets))
    (F__law_families : Fun K "_law_families" "_law_families" sLawFamilies f__law_families d__law_families) (m__law_families : mg "_law_families" = some (.ref f__law_families))
    (F__law_forced : Fun K "_law_forced" "_law_forced" sLawForced f__law_forced d__law_forced) (m__law_forced : mg "_law_forced" = some (.ref f__law_forced))
    (F__law_least : Fun K "_law_least" "_law_least" sLawLeast f__law_least d__law_least) (m__law_least : mg "_law_least" = some (.ref f__law_least))
    (F__law_dual : Fun K "_law_dual" "_law_dual" sLawDual f__law_dual d__law_dual) (m__law_dual : mg "_law_dual" = some (.ref f__law_dual))
    (F__law_told : Fun K "_law_told" "_law_told" sLawTold f__law_told d__law_told) (m__law_told : mg "_law_told" = some (.ref f__law_told))
    (F__law_joined : Fun K "_law_joined" "_law_joined" sLawJoined f__law_joined d__law_joined) (m__law_joined : mg "_law_joined" = some (.ref f__law_joined))
    (F__law_covers : Fun K "_law_covers" "_law_covers" sLawCovers f__law_covers d__law_covers) (m__law_covers : mg "_law_covers" = some (.ref f__law_covers))
    (F__law_unlike : Fun K "_law_unlike" "_law_unlike" sLawUnlike f__law_unlike d__law_unlike) (m__law_unlike : mg "_law_unlike" = some (.ref f__law_unlike))
    (F__law_forces_right : Fun K "_law_forces_right" "_law_forces_right" sLawForcesRight f__law_forces_right d__law_forces_right) (m__law_forces_right : mg "_law_forces_right" = some (.ref f__law_forces_right))
    (F__law_spots : Fun K "_law_spots" "_law_spots" sLawSpots f__law_spots d__law_spots) (m__law_spots : mg "_law_spots" = some (.ref f__law_spots))
    (F__law_apart : Fun K "_law_apart" "_law_apart" sLawApart f__law_apart d__law_apart) (m__law_apart : mg "_law_apart" = some (.ref f__law_apart))
    (F_law : Fun K "law" "law" sLaw f_law d_law) (m_law : mg "law" = some (.ref f_law))
    (F_init : Fun K "__init__" "Power.__init__" sPowerInit Z.f d_init)
    (F_forces : Fun K "forces" "Power.forces" sPowerForces f_forces d_forces) (m_forces : Meth K Z.C "forces" f_forces)
    (F_covers : Fun K "covers" "Power.covers" sPowerCovers f_covers d_covers) (m_covers : Meth K Z.C "covers" f_covers)
    (F_eq : Fun K "__eq__" "Power.__eq__" sPowerEq f_eq d_eq) (m_eq : Meth K Z.C "__eq__" f_eq)
    (F_invert : Fun K "__invert__" "Power.__invert__" sPowerInvert f_invert d_invert) (m_invert : Meth K Z.C "__invert__" f_invert)
    (F_or : Fun K "__or__" "Power.__or__" sPowerOr f_or d_or) (m_or : Meth K Z.C "__or__" f_or)
    (F_and : Fun K "__and__" "Power.__and__" sPowerAnd f_and d_and) (m_and : Meth K Z.C "__and__" f_and)
    (F_outcomes : Fun K "outcomes" "Power.outcomes" sPowerOutcomes f_outcomes d_outcomes) (m_outcomes : PropOf K Z.C "outcomes" p_outcomes f_outcomes)
    (F_sets : Fun K "sets" "Power.sets" sPowerSets f_sets d_sets) (m_sets : PropOf K Z.C "sets" p_sets f_sets)
    (F_even : Fun K "even" "Power.even" sPowerEven f_even d_even) (m_even : PropOf K Z.C "even" p_even f_even) :
    FnOk P w K mg base CX0 9 f_law d_law ["_law_script"] (spLaw K) := by
  have G_set_rank : RkD K mg := ⟨f_set_rank, d_set_rank, F_set_rank, m_set_rank⟩
  have ok_outcomes : FnOk P w K mg base CX0 1 f_outcomes d_outcomes ["self"] (getSp Z.C "names") := by
    obtain ⟨oc, od, kV, doc, pm, an, cdv, ct, osl, e, lk, hcd⟩ := F_outcomes.ex
    subst e
    exact fn_getter lk hcd scGet1 rfl rfl Z.cl Z.nN
  have ok_sets : FnOk P w K mg base CX0 1 f_sets d_sets ["self"] (getSp Z.C "least") := by
    obtain ⟨oc, od, kV, doc, pm, an, cdv, ct, osl, e, lk, hcd⟩ := F_sets.ex
    subst e
    exact fn_getter lk hcd scGet2 rfl rfl Z.cl Z.nL
  have kb : ∀ (s : Shared) (u : Value) (ws : List Value), K.In s.heap → ws.length = 1 → BindsTo s d_covers ⟨[u] ++ [], [("other" : Str)].zip ws⟩ ([("self" : Str), "other"].zip (u :: ws)) := by
    obtain ⟨oc, od, kV, doc, pm, an, cdv, ct, osl, e, lk, hcd⟩ := F_covers.ex
    rw [e]
    intro s u ws _ hl
    match ws, hl with
    | [x], _ => exact .of_eq rfl
  have G_valid_name : DValid P w K mg base := ⟨f_valid_name, d_valid_name, F_valid_name, m_valid_name, F_valid_name.kp, (F_valid_name.binds (ps := ["text"]) fun _ _ _ _ _ _ us hl => match us, hl with | [_], _ => rfl), ok_valid F_valid_name T⟩
  have G_is_part : DPart P w K mg base := ⟨f_is_part, d_is_part, F_is_part, m_is_part, F_is_part.kp, (F_is_part.binds (ps := ["names", "value"]) fun _ _ _ _ _ _ us hl => match us, hl with | [_, _], _ => rfl), ok_part F_is_part T⟩
  have G_check_number : DNumber P w K mg base := ⟨f_check_number, d_check_number, F_check_number, m_check_number, F_check_number.kp, (F_check_number.binds (ps := ["count"]) fun _ _ _ _ _ _ us hl => match us, hl with | [_], _ => rfl), ok_number F_check_number T⟩
  have G_check_different : DDiff P w K mg base := ⟨f_check_different, d_check_different, F_check_different, m_check_different, F_check_different.kp, (F_check_different.binds (ps := ["names"]) fun _ _ _ _ _ _ us hl => match us, hl with | [_], _ => rfl), ok_diff F_check_different T G_valid_name⟩
  have G_lies_in : DLies P w K mg base := ⟨f_lies_in, d_lies_in, F_lies_in, m_lies_in, F_lies_in.kp, (F_lies_in.binds (ps := ["names", "wanted"]) fun _ _ _ _ _ _ us hl => match us, hl with | [_, _], _ => rfl), ok_lies F_lies_in T⟩
  have G_meet : DMeet P w K mg base := ⟨f_meet, d_meet, F_meet, m_meet, F_meet.kp, (F_meet.binds (ps := ["one", "other"]) fun _ _ _ _ _ _ us hl => match us, hl with | [_, _], _ => rfl), ok_meet F_meet T⟩
  have G_is_set : DIsSet P w K mg base := ⟨f_is_set, d_is_set, F_is_set, m_is_set, F_is_set.kp, (F_is_set.binds (ps := ["outcomes", "value"]) fun _ _ _ _ _ _ us hl => match us, hl with | [_, _], _ => rfl), ok_isSet F_is_set G_is_part⟩
  have G_meets_all : DMeets P w K mg base := ⟨f_meets_all, d_meets_all, F_meets_all, m_meets_all, F_meets_all.kp, (F_meets_all.binds (ps := ["names", "sets"]) fun _ _ _ _ _ _ us hl => match us, hl with | [_, _], _ => rfl), ok_meets F_meets_all T G_meet⟩
  have G_all_sets : DAll P w K mg base := ⟨f_all_sets, d_all_sets, F_all_sets, m_all_sets, F_all_sets.kp, (F_all_sets.binds (ps := ["outcomes"]) fun _ _ _ _ _ _ us hl => match us, hl with | [_], _ => rfl), ok_all F_all_sets T G_set_rank⟩
  have G_minimal_sets : DMini P w K mg base := ⟨f_minimal_sets, d_minimal_sets, F_minimal_sets, m_minimal_sets, F_minimal_sets.kp, (F_minimal_sets.binds (ps := ["found"]) fun _ _ _ _ _ _ us hl => match us, hl with | [_], _ => rfl), ok_mini F_minimal_sets T G_set_rank G_lies_in⟩
  have G_dual_sets : DDual P w K mg base := ⟨f_dual_sets, d_dual_sets, F_dual_sets, m_dual_sets, F_dual_sets.kp, (F_dual_sets.binds (ps := ["names", "sets"]) fun _ _ _ _ _ _ us hl => match us, hl with | [_, _], _ => rfl), ok_dual F_dual_sets T G_all_sets G_minimal_sets G_meets_all⟩
  have G_outcomes : DOut P w K mg base Z.C := ⟨p_outcomes, f_outcomes, d_outcomes, m_outcomes, (F_outcomes.binds (ps := ["self"]) fun _ _ _ _ _ _ us hl => match us, hl with | [_], _ => rfl), ok_outcomes⟩
  have G_sets : DSets P w K mg base Z.C := ⟨p_sets, f_sets, d_sets, m_sets, (F_sets.binds (ps := ["self"]) fun _ _ _ _ _ _ us hl => match us, hl with | [_], _ => rfl), ok_sets⟩
  have G_check_like : DLike P w K mg base Z.C Y.C := ⟨f_check_like, d_check_like, F_check_like, m_check_like, F_check_like.kp, (F_check_like.binds (ps := ["one", "other"]) fun _ _ _ _ _ _ us hl => match us, hl with | [_, _], _ => rfl), ok_like F_check_like Z Y G_outcomes⟩
  have G_init : DInit P w K mg base Z.f (spInit Z.C) := ⟨d_init, (F_init.binds (ps := ["self", "outcomes", "sets"]) fun _ _ _ _ _ _ us hl => match us, hl with | [_, _, _], _ => rfl), ok_init F_init T Z G_check_number G_check_different G_is_set G_minimal_sets⟩
  have G_even : DEven P w K mg base Z.C := ⟨p_even, f_even, d_even, m_even, (F_even.binds (ps := ["self"]) fun _ _ _ _ _ _ us hl => match us, hl with | [_], _ => rfl), ok_even F_even T Z G_dual_sets⟩
  have G_forces : DForces P w K mg base Z.C := ⟨f_forces, d_forces, m_forces, (F_forces.binds (ps := ["self", "wanted"]) fun _ _ _ _ _ _ us hl => match us, hl with | [_, _], _ => rfl), ok_forces F_forces T Z G_is_set G_lies_in⟩
  have G_eq : DEq P w K mg base Z.C := ⟨f_eq, d_eq, m_eq, (F_eq.binds (ps := ["self", "other"]) fun _ _ _ _ _ _ us hl => match us, hl with | [_, _], _ => rfl), ok_eq F_eq T Z⟩
  have G_invert : DInv P w K mg base Z.C := ⟨f_invert, d_invert, m_invert, (F_invert.binds (ps := ["self"]) fun _ _ _ _ _ _ us hl => match us, hl with | [_], _ => rfl), ok_invert F_invert T Z G_dual_sets G_init⟩
  have G_or : DOr P w K mg base Z.C Y.C := ⟨f_or, d_or, m_or, (F_or.binds (ps := ["self", "other"]) fun _ _ _ _ _ _ us hl => match us, hl with | [_, _], _ => rfl), ok_or F_or T Z Y G_check_like G_sets G_init⟩
  obtain ⟨G_covers, kbC⟩ : ∃ G : DCovers P w K mg base Z.C Y.C, ∀ (s : Shared) (u : Value) (ws : List Value), K.In s.heap → ws.length = 1 → BindsTo s G.fd ⟨[u] ++ [], [("other" : Str)].zip ws⟩ ([("self" : Str), "other"].zip (u :: ws)) := ⟨⟨f_covers, d_covers, m_covers, (F_covers.binds (ps := ["self", "other"]) fun _ _ _ _ _ _ us hl => match us, hl with | [_, _], _ => rfl), ok_covers F_covers T Z Y G_check_like G_sets G_forces⟩, kb⟩
  have G_and : DAnd P w K mg base Z.C Y.C := ⟨f_and, d_and, m_and, (F_and.binds (ps := ["self", "other"]) fun _ _ _ _ _ _ us hl => match us, hl with | [_, _], _ => rfl), ok_and F_and T Z Y G_check_like G_sets G_init⟩
  have G__law_start : DStart P w K mg base := ⟨f__law_start, d__law_start, F__law_start, m__law_start, F__law_start.kp, (F__law_start.binds (ps := ["_law_script"]) fun _ _ _ _ _ _ us hl => match us, hl with | [_], _ => rfl), ok_start F__law_start T⟩
  have G__law_draw : DDraw P w K mg base := ⟨f__law_draw, d__law_draw, F__law_draw, m__law_draw, F__law_draw.kp, (F__law_draw.binds (ps := ["_law_state", "_law_size"]) fun _ _ _ _ _ _ us hl => match us, hl with | [_, _], _ => rfl), ok_draw F__law_draw T⟩
  have G__law_sets : DSetsL P w K mg base := ⟨f__law_sets, d__law_sets, F__law_sets, m__law_sets, F__law_sets.kp, (F__law_sets.binds (ps := ["_law_names_here"]) fun _ _ _ _ _ _ us hl => match us, hl with | [_], _ => rfl), ok_setsL F__law_sets T⟩
  have G__law_forced : DForcedL P w K mg base := ⟨f__law_forced, d__law_forced, F__law_forced, m__law_forced, F__law_forced.kp, (F__law_forced.binds (ps := ["_law_sets_here", "_law_chosen"]) fun _ _ _ _ _ _ us hl => match us, hl with | [_, _], _ => rfl), ok_forcedL F__law_forced T⟩
  have G__law_least : DLeast P w K mg base := ⟨f__law_least, d__law_least, F__law_least, m__law_least, F__law_least.kp, (F__law_least.binds (ps := ["_law_names_here", "_law_sets_here"]) fun _ _ _ _ _ _ us hl => match us, hl with | [_, _], _ => rfl), ok_least F__law_least T G__law_sets G__law_forced⟩
  have G__law_dual : DDualL P w K mg base := ⟨f__law_dual, d__law_dual, F__law_dual, m__law_dual, F__law_dual.kp, (F__law_dual.binds (ps := ["_law_names_here", "_law_sets_here"]) fun _ _ _ _ _ _ us hl => match us, hl with | [_, _], _ => rfl), ok_dualL F__law_dual T G__law_sets G__law_forced⟩
  have G__law_joined : DJoined P w K mg base := ⟨f__law_joined, d__law_joined, F__law_joined, m__law_joined, F__law_joined.kp, (F__law_joined.binds (ps := ["_law_names_here", "_law_one", "_law_two", "_law_both"]) fun _ _ _ _ _ _ us hl => match us, hl with | [_, _, _, _], _ => rfl), ok_joined F__law_joined T G__law_sets G__law_forced⟩
  have G__law_covers : DCoversL P w K mg base := ⟨f__law_covers, d__law_covers, F__law_covers, m__law_covers, F__law_covers.kp, (F__law_covers.binds (ps := ["_law_names_here", "_law_one", "_law_two"]) fun _ _ _ _ _ _ us hl => match us, hl with | [_, _, _], _ => rfl), ok_coversL F__law_covers T G__law_sets G__law_forced⟩
  have G__law_families : DFam P w K mg base := ⟨f__law_families, d__law_families, F__law_families, m__law_families, F__law_families.kp, (F__law_families.binds (ps := ["_law_state", "_law_names_here", "_law_count"]) fun _ _ _ _ _ _ us hl => match us, hl with | [_, _, _], _ => rfl), ok_fam F__law_families T G__law_draw⟩
  have G__law_spots : DSpots P w K mg base := ⟨f__law_spots, d__law_spots, F__law_spots, m__law_spots, F__law_spots.kp, (F__law_spots.binds (ps := ["_law_state", "_law_count"]) fun _ _ _ _ _ _ us hl => match us, hl with | [_, _], _ => rfl), ok_spots F__law_spots T G__law_draw⟩
  have G__law_names : DNames P w K mg base := ⟨f__law_names, d__law_names, F__law_names, m__law_names, F__law_names.kp, (F__law_names.binds (ps := ["_law_state", "_law_count"]) fun _ _ _ _ _ _ us hl => match us, hl with | [_, _], _ => rfl), ok_names F__law_names T G__law_draw⟩
  have G__law_told : DTold P w K mg base Z.C := ⟨f__law_told, d__law_told, F__law_told, m__law_told, F__law_told.kp, (F__law_told.binds (ps := ["_law_plan", "_law_one", "_law_two"]) fun _ _ _ _ _ _ us hl => match us, hl with | [_, _, _], _ => rfl), ok_told F__law_told T Z Y G_or G_and G_covers G_sets⟩
  have G__law_unlike : DUnlike P w K mg base Z.C := ⟨f__law_unlike, d__law_unlike, F__law_unlike, m__law_unlike, F__law_unlike.kp, (F__law_unlike.binds (ps := ["_law_one", "_law_far"]) fun _ _ _ _ _ _ us hl => match us, hl with | [_, _], _ => rfl), ok_unlikeL F__law_unlike T Z G_outcomes G__law_told⟩
  have G__law_apart : DApart P w K mg base Z.C := ⟨f__law_apart, d__law_apart, F__law_apart, m__law_apart, F__law_apart.kp, (F__law_apart.binds (ps := ["_law_names_here", "_law_one"]) fun _ _ _ _ _ _ us hl => match us, hl with | [_, _], _ => rfl), ok_apart F__law_apart T Z G_init G_eq G_outcomes G__law_unlike⟩
  have G__law_forces_right : DRight P w K mg base Z.C := ⟨f__law_forces_right, d__law_forces_right, F__law_forces_right, m__law_forces_right, F__law_forces_right.kp, (F__law_forces_right.binds (ps := ["_law_state", "_law_names_here", "_law_families_here", "_law_pair"]) fun _ _ _ _ _ _ us hl => match us, hl with | [_, _, _, _], _ => rfl), ok_right F__law_forces_right T Z Y G_or G_and G_invert G_covers G_forces G_even G_outcomes G_sets G__law_dual G__law_joined G__law_least G__law_covers G__law_sets G__law_forced G__law_spots⟩
  exact ok_law F_law T Z Y G__law_start G__law_names G__law_draw G__law_families G__law_dual G__law_joined G__law_covers G__law_least G__law_told G__law_forces_right G__law_apart G_init G_or G_and G_invert G_covers G_eq G_sets G_outcomes G_even kbC
theorem all_mk {P : Program} {w : World} {K : PySem.W.Frag} {h : Heap} {mg : Str → Option Value} {fa C U B : Addr} (X : K.In h) (G : h.Ns mainGlobals mg) (hfa : mg "law" = some (.ref fa))
    {f_valid_name f_is_part f_check_number f_check_different f_set_rank f_all_sets f_is_set f_lies_in f_minimal_sets f_meet f_meets_all f_check_like f_dual_sets f__law_start f__law_draw f__law_names f__law_sets f__law_families f__law_forced f__law_least f__law_dual f__law_told f__law_joined f__law_covers f__law_unlike f__law_forces_right f__law_spots f__law_apart f_law f_init f_forces f_covers f_eq f_invert f_or f_and f_outcomes f_sets f_even f_un p_outcomes p_sets p_even : Addr} {routcomes rsets reven : List Value} {tL tD tN tM : Tok}
    {nm qn : Str} {NN : Addr} {bs bm : List Value} {sn : List Str} {sub : List Value} {ab : Bool} {col : Option Bool} {dd : Option Addr} {m0 m1 m2 m3 m5 : Option Value}
    {od_valid_name an_valid_name od_is_part an_is_part od_check_number an_check_number od_check_different an_check_different od_set_rank an_set_rank od_all_sets an_all_sets od_is_set an_is_set od_lies_in an_lies_in od_minimal_sets an_minimal_sets od_meet an_meet od_meets_all an_meets_all od_check_like an_check_like od_dual_sets an_dual_sets od__law_start an__law_start od__law_draw an__law_draw od__law_names an__law_names od__law_sets an__law_sets od__law_families an__law_families od__law_forced an__law_forced od__law_least an__law_least od__law_dual an__law_dual od__law_told an__law_told od__law_joined an__law_joined od__law_covers an__law_covers od__law_unlike an__law_unlike od__law_forces_right an__law_forces_right od__law_spots an__law_spots od__law_apart an__law_apart od_law an_law od_init an_init od_forces an_forces od_covers an_covers od_eq an_eq od_invert an_invert od_or an_or od_and an_and od_outcomes an_outcomes od_sets an_sets od_even an_even od_un an_un : Option Addr} {sl_valid_name sl_is_part sl_check_number sl_check_different sl_set_rank sl_all_sets sl_is_set sl_lies_in sl_minimal_sets sl_meet sl_meets_all sl_check_like sl_dual_sets sl__law_start sl__law_draw sl__law_names sl__law_sets sl__law_families sl__law_forced sl__law_least sl__law_dual sl__law_told sl__law_joined sl__law_covers sl__law_unlike sl__law_forces_right sl__law_spots sl__law_apart sl_law sl_init sl_forces sl_covers sl_eq sl_invert sl_or sl_and sl_outcomes sl_sets sl_even sl_un : Array (Option Value)} {oc_valid_name kV_valid_name dc_valid_name pm_valid_name cd_valid_name ct_valid_name oc_is_part kV_is_part dc_is_part pm_is_part cd_is_part ct_is_part oc_check_number kV_check_number dc_check_number pm_check_number cd_check_number ct_check_number oc_check_different kV_check_different dc_check_different pm_check_different cd_check_different ct_check_different oc_set_rank kV_set_rank dc_set_rank pm_set_rank cd_set_rank ct_set_rank oc_all_sets kV_all_sets dc_all_sets pm_all_sets cd_all_sets ct_all_sets oc_is_set kV_is_set dc_is_set pm_is_set cd_is_set ct_is_set oc_lies_in kV_lies_in dc_lies_in pm_lies_in cd_lies_in ct_lies_in oc_minimal_sets kV_minimal_sets dc_minimal_sets pm_minimal_sets cd_minimal_sets ct_minimal_sets oc_meet kV_meet dc_meet pm_meet cd_meet ct_meet oc_meets_all kV_meets_all dc_meets_all pm_meets_all cd_meets_all ct_meets_all oc_check_like kV_check_like dc_check_like pm_check_like cd_check_like ct_check_like oc_dual_sets kV_dual_sets dc_dual_sets pm_dual_sets cd_dual_sets ct_dual_sets oc__law_start kV__law_start dc__law_start pm__law_start cd__law_start ct__law_start oc__law_draw kV__law_draw dc__law_draw pm__law_draw cd__law_draw ct__law_draw oc__law_names kV__law_names dc__law_names pm__law_names cd__law_names ct__law_names oc__law_sets kV__law_sets dc__law_sets pm__law_sets cd__law_sets ct__law_sets oc__law_families kV__law_families dc__law_families pm__law_families cd__law_families ct__law_families oc__law_forced kV__law_forced dc__law_forced pm__law_forced cd__law_forced ct__law_forced oc__law_least kV__law_least dc__law_least pm__law_least cd__law_least ct__law_least oc__law_dual kV__law_dual dc__law_dual pm__law_dual cd__law_dual ct__law_dual oc__law_told kV__law_told dc__law_told pm__law_told cd__law_told ct__law_told oc__law_joined kV__law_joined dc__law_joined pm__law_joined cd__law_joined ct__law_joined oc__law_covers kV__law_covers dc__law_covers pm__law_covers cd__law_covers ct__law_covers oc__law_unlike kV__law_unlike dc__law_unlike pm__law_unlike cd__law_unlike ct__law_unlike oc__law_forces_right kV__law_forces_right dc__law_forces_right pm__law_forces_right cd__law_forces_right ct__law_forces_right oc__law_spots kV__law_spots dc__law_spots pm__law_spots cd__law_spots ct__law_spots oc__law_apart kV__law_apart dc__law_apart pm__law_apart cd__law_apart ct__law_apart oc_law kV_law dc_law pm_law cd_law ct_law oc_init kV_init dc_init pm_init cd_init ct_init oc_forces kV_forces dc_forces pm_forces cd_forces ct_forces oc_covers kV_covers dc_covers pm_covers cd_covers ct_covers oc_eq kV_eq dc_eq pm_eq cd_eq ct_eq oc_invert kV_invert dc_invert pm_invert cd_invert ct_invert oc_or kV_or dc_or pm_or cd_or ct_or oc_and kV_and dc_and pm_and cd_and ct_and oc_outcomes kV_outcomes dc_outcomes pm_outcomes cd_outcomes ct_outcomes oc_sets kV_sets dc_sets pm_sets cd_sets ct_sets oc_even kV_even dc_even pm_even cd_even ct_even oc_un kV_un dc_un pm_un cd_un ct_un : Value}
    (aC : PySem.W.nsIn K mainGlobals "Power" = some (some (.ref C)))
    (aU : PySem.W.nsIn K mainGlobals "UnlikeOutcomes" = some (some (.ref U)))
    (aB : PySem.W.nsIn K mainGlobals "ChooserError" = some (some (.ref B)))
    (a_valid_name : PySem.W.nsIn K mainGlobals "valid_name" = some (some (.ref f_valid_name)))
    (l_valid_name : K.lookup f_valid_name = some ⟨oc_valid_name, od_valid_name, .func (PySem.W.fnOf "valid_name" "valid_name" (defArgs sValidName) (defBody sValidName) (defScope sValidName) .none kV_valid_name dc_valid_name pm_valid_name an_valid_name cd_valid_name ct_valid_name), sl_valid_name⟩)
    (c_valid_name : PySem.W.codeIn K cd_valid_name "valid_name" = true)
    (k_valid_name : PySem.W.keepIn K (.ref f_valid_name) = true)
    (a_is_part : PySem.W.nsIn K mainGlobals "is_part" = some (some (.ref f_is_part)))
    (l_is_part : K.lookup f_is_part = some ⟨oc_is_part, od_is_part, .func (PySem.W.fnOf "is_part" "is_part" (defArgs sIsPart) (defBody sIsPart) (defScope sIsPart) .none kV_is_part dc_is_part pm_is_part an_is_part cd_is_part ct_is_part), sl_is_part⟩)
    (c_is_part : PySem.W.codeIn K cd_is_part "is_part" = true)
    (k_is_part : PySem.W.keepIn K (.ref f_is_part) = true)
    (a_check_number : PySem.W.nsIn K mainGlobals "check_number" = some (some (.ref f_check_number)))
    (l_check_number : K.lookup f_check_number = some ⟨oc_check_number, od_check_number, .func (PySem.W.fnOf "check_number" "check_number" (defArgs sCheckNumber) (defBody sCheckNumber) (defScope sCheckNumber) .none kV_check_number dc_check_number pm_check_number an_check_number cd_check_number ct_check_number), sl_check_number⟩)
    (c_check_number : PySem.W.codeIn K cd_check_number "check_number" = true)
    (k_check_number : PySem.W.keepIn K (.ref f_check_number) = true)
    (a_check_different : PySem.W.nsIn K mainGlobals "check_different" = some (some (.ref f_check_different)))
    (l_check_different : K.lookup f_check_different = some ⟨oc_check_different, od_check_different, .func (PySem.W.fnOf "check_different" "check_different" (defArgs sCheckDifferent) (defBody sCheckDifferent) (defScope sCheckDifferent) .none kV_check_different dc_check_different pm_check_different an_check_different cd_check_different ct_check_different), sl_check_different⟩)
    (c_check_different : PySem.W.codeIn K cd_check_different "check_different" = true)
    (k_check_different : PySem.W.keepIn K (.ref f_check_different) = true)
    (a_set_rank : PySem.W.nsIn K mainGlobals "set_rank" = some (some (.ref f_set_rank)))
    (l_set_rank : K.lookup f_set_rank = some ⟨oc_set_rank, od_set_rank, .func (PySem.W.fnOf "set_rank" "set_rank" (defArgs sSetRank) (defBody sSetRank) (defScope sSetRank) .none kV_set_rank dc_set_rank pm_set_rank an_set_rank cd_set_rank ct_set_rank), sl_set_rank⟩)
    (c_set_rank : PySem.W.codeIn K cd_set_rank "set_rank" = true)
    (k_set_rank : PySem.W.keepIn K (.ref f_set_rank) = true)
    (a_all_sets : PySem.W.nsIn K mainGlobals "all_sets" = some (some (.ref f_all_sets)))
    (l_all_sets : K.lookup f_all_sets = some ⟨oc_all_sets, od_all_sets, .func (PySem.W.fnOf "all_sets" "all_sets" (defArgs sAllSets) (defBody sAllSets) (defScope sAllSets) .none kV_all_sets dc_all_sets pm_all_sets an_all_sets cd_all_sets ct_all_sets), sl_all_sets⟩)
    (c_all_sets : PySem.W.codeIn K cd_all_sets "all_sets" = true)
    (k_all_sets : PySem.W.keepIn K (.ref f_all_sets) = true)
    (a_is_set : PySem.W.nsIn K mainGlobals "is_set" = some (some (.ref f_is_set)))
    (l_is_set : K.lookup f_is_set = some ⟨oc_is_set, od_is_set, .func (PySem.W.fnOf "is_set" "is_set" (defArgs sIsSet) (defBody sIsSet) (defScope sIsSet) .none kV_is_set dc_is_set pm_is_set an_is_set cd_is_set ct_is_set), sl_is_set⟩)
    (c_is_set : PySem.W.codeIn K cd_is_set "is_set" = true)
    (k_is_set : PySem.W.keepIn K (.ref f_is_set) = true)
    (a_lies_in : PySem.W.nsIn K mainGlobals "lies_in" = some (some (.ref f_lies_in)))
    (l_lies_in : K.lookup f_lies_in = some ⟨oc_lies_in, od_lies_in, .func (PySem.W.fnOf "lies_in" "lies_in" (defArgs sLiesIn) (defBody sLiesIn) (defScope sLiesIn) .none kV_lies_in dc_lies_in pm_lies_in an_lies_in cd_lies_in ct_lies_in), sl_lies_in⟩)
    (c_lies_in : PySem.W.codeIn K cd_lies_in "lies_in" = true)
    (k_lies_in : PySem.W.keepIn K (.ref f_lies_in) = true)
    (a_minimal_sets : PySem.W.nsIn K mainGlobals "minimal_sets" = some (some (.ref f_minimal_sets)))
    (l_minimal_sets : K.lookup f_minimal_sets = some ⟨oc_minimal_sets, od_minimal_sets, .func (PySem.W.fnOf "minimal_sets" "minimal_sets" (defArgs sMinimalSets) (defBody sMinimalSets) (defScope sMinimalSets) .none kV_minimal_sets dc_minimal_sets pm_minimal_sets an_minimal_sets cd_minimal_sets ct_minimal_sets), sl_minimal_sets⟩)
    (c_minimal_sets : PySem.W.codeIn K cd_minimal_sets "minimal_sets" = true)
    (k_minimal_sets : PySem.W.keepIn K (.ref f_minimal_sets) = true)
    (a_meet : PySem.W.nsIn K mainGlobals "meet" = some (some (.ref f_meet)))
    (l_meet : K.lookup f_meet = some ⟨oc_meet, od_meet, .func (PySem.W.fnOf "meet" "meet" (defArgs sMeet) (defBody sMeet) (defScope sMeet) .none kV_meet dc_meet pm_meet an_meet cd_meet ct_meet), sl_meet⟩)
    (c_meet : PySem.W.codeIn K cd_meet "meet" = true)
    (k_meet : PySem.W.keepIn K (.ref f_meet) = true)
    (a_meets_all : PySem.W.nsIn K mainGlobals "meets_all" = some (some (.ref f_meets_all)))
    (l_meets_all : K.lookup f_meets_all = some ⟨oc_meets_all, od_meets_all, .func (PySem.W.fnOf "meets_all" "meets_all" (defArgs sMeetsAll) (defBody sMeetsAll) (defScope sMeetsAll) .none kV_meets_all dc_meets_all pm_meets_all an_meets_all cd_meets_all ct_meets_all), sl_meets_all⟩)
    (c_meets_all : PySem.W.codeIn K cd_meets_all "meets_all" = true)
    (k_meets_all : PySem.W.keepIn K (.ref f_meets_all) = true)
    (a_check_like : PySem.W.nsIn K mainGlobals "check_like" = some (some (.ref f_check_like)))
    (l_check_like : K.lookup f_check_like = some ⟨oc_check_like, od_check_like, .func (PySem.W.fnOf "check_like" "check_like" (defArgs sCheckLike) (defBody sCheckLike) (defScope sCheckLike) .none kV_check_like dc_check_like pm_check_like an_check_like cd_check_like ct_check_like), sl_check_like⟩)
    (c_check_like : PySem.W.codeIn K cd_check_like "check_like" = true)
    (k_check_like : PySem.W.keepIn K (.ref f_check_like) = true)
    (a_dual_sets : PySem.W.nsIn K mainGlobals "dual_sets" = some (some (.ref f_dual_sets)))
    (l_dual_sets : K.lookup f_dual_sets = some ⟨oc_dual_sets, od_dual_sets, .func (PySem.W.fnOf "dual_sets" "dual_sets" (defArgs sDualSets) (defBody sDualSets) (defScope sDualSets) .none kV_dual_sets dc_dual_sets pm_dual_sets an_dual_sets cd_dual_sets ct_dual_sets), sl_dual_sets⟩)
    (c_dual_sets : PySem.W.codeIn K cd_dual_sets "dual_sets" = true)
    (k_dual_sets : PySem.W.keepIn K (.ref f_dual_sets) = true)
    (a__law_start : PySem.W.nsIn K mainGlobals "_law_start" = some (some (.ref f__law_start)))
    (l__law_start : K.lookup f__law_start = some ⟨oc__law_start, od__law_start, .func (PySem.W.fnOf "_law_start" "_law_start" (defArgs sLawStart) (defBody sLawStart) (defScope sLawStart) .none kV__law_start dc__law_start pm__law_start an__law_start cd__law_start ct__law_start), sl__law_start⟩)
    (c__law_start : PySem.W.codeIn K cd__law_start "_law_start" = true)
    (k__law_start : PySem.W.keepIn K (.ref f__law_start) = true)
    (a__law_draw : PySem.W.nsIn K mainGlobals "_law_draw" = some (some (.ref f__law_draw)))
    (l__law_draw : K.lookup f__law_draw = some ⟨oc__law_draw, od__law_draw, .func (PySem.W.fnOf "_law_draw" "_law_draw" (defArgs sLawDraw) (defBody sLawDraw) (defScope sLawDraw) .none kV__law_draw dc__law_draw pm__law_draw an__law_draw cd__law_draw ct__law_draw), sl__law_draw⟩)
    (c__law_draw : PySem.W.codeIn K cd__law_draw "_law_draw" = true)
    (k__law_draw : PySem.W.keepIn K (.ref f__law_draw) = true)
    (a__law_names : PySem.W.nsIn K mainGlobals "_law_names" = some (some (.ref f__law_names)))
    (l__law_names : K.lookup f__law_names = some ⟨oc__law_names, od__law_names, .func (PySem.W.fnOf "_law_names" "_law_names" (defArgs sLawNames) (defBody sLawNames) (defScope sLawNames) .none kV__law_names dc__law_names pm__law_names an__law_names cd__law_names ct__law_names), sl__law_names⟩)
    (c__law_names : PySem.W.codeIn K cd__law_names "_law_names" = true)
    (k__law_names : PySem.W.keepIn K (.ref f__law_names) = true)
    (a__law_sets : PySem.W.nsIn K mainGlobals "_law_sets" = some (some (.ref f__law_sets)))
    (l__law_sets : K.lookup f__law_sets = some ⟨oc__law_sets, od__law_sets, .func (PySem.W.fnOf "_law_sets" "_law_sets" (defArgs sLawSets) (defBody sLawSets) (defScope sLawSets) .none kV__law_sets dc__law_sets pm__law_sets an__law_sets cd__law_sets ct__law_sets), sl__law_sets⟩)
    (c__law_sets : PySem.W.codeIn K cd__law_sets "_law_sets" = true)
    (k__law_sets : PySem.W.keepIn K (.ref f__law_sets) = true)
    (a__law_families : PySem.W.nsIn K mainGlobals "_law_families" = some (some (.ref f__law_families)))
    (l__law_families : K.lookup f__law_families = some ⟨oc__law_families, od__law_families, .func (PySem.W.fnOf "_law_families" "_law_families" (defArgs sLawFamilies) (defBody sLawFamilies) (defScope sLawFamilies) .none kV__law_families dc__law_families pm__law_families an__law_families cd__law_families ct__law_families), sl__law_families⟩)
    (c__law_families : PySem.W.codeIn K cd__law_families "_law_families" = true)
    (k__law_families : PySem.W.keepIn K (.ref f__law_families) = true)
    (a__law_forced : PySem.W.nsIn K mainGlobals "_law_forced" = some (some (.ref f__law_forced)))
    (l__law_forced : K.lookup f__law_forced = some ⟨oc__law_forced, od__law_forced, .func (PySem.W.fnOf "_law_forced" "_law_forced" (defArgs sLawForced) (defBody sLawForced) (defScope sLawForced) .none kV__law_forced dc__law_forced pm__law_forced an__law_forced cd__law_forced ct__law_forced), sl__law_forced⟩)
    (c__law_forced : PySem.W.codeIn K cd__law_forced "_law_forced" = true)
    (k__law_forced : PySem.W.keepIn K (.ref f__law_forced) = true)
    (a__law_least : PySem.W.nsIn K mainGlobals "_law_least" = some (some (.ref f__law_least)))
    (l__law_least : K.lookup f__law_least = some ⟨oc__law_least, od__law_least, .func (PySem.W.fnOf "_law_least" "_law_least" (defArgs sLawLeast) (defBody sLawLeast) (defScope sLawLeast) .none kV__law_least dc__law_least pm__law_least an__law_least cd__law_least ct__law_least), sl__law_least⟩)
    (c__law_least : PySem.W.codeIn K cd__law_least "_law_least" = true)
    (k__law_least : PySem.W.keepIn K (.ref f__law_least) = true)
    (a__law_dual : PySem.W.nsIn K mainGlobals "_law_dual" = some (some (.ref f__law_dual)))
    (l__law_dual : K.lookup f__law_dual = some ⟨oc__law_dual, od__law_dual, .func (PySem.W.fnOf "_law_dual" "_law_dual" (defArgs sLawDual) (defBody sLawDual) (defScope sLawDual) .none kV__law_dual dc__law_dual pm__law_dual an__law_dual cd__law_dual ct__law_dual), sl__law_dual⟩)
    (c__law_dual : PySem.W.codeIn K cd__law_dual "_law_dual" = true)
    (k__law_dual : PySem.W.keepIn K (.ref f__law_dual) = true)
    (a__law_told : PySem.W.nsIn K mainGlobals "_law_told" = some (some (.ref f__law_told)))
    (l__law_told : K.lookup f__law_told = some ⟨oc__law_told, od__law_told, .func (PySem.W.fnOf "_law_told" "_law_told" (defArgs sLawTold) (defBody sLawTold) (defScope sLawTold) .none kV__law_told dc__law_told pm__law_told an__law_told cd__law_told ct__law_told), sl__law_told⟩)
    (c__law_told : PySem.W.codeIn K cd__law_told "_law_told" = true)
    (k__law_told : PySem.W.keepIn K (.ref f__law_told) = true)
    (a__law_joined : PySem.W.nsIn K mainGlobals "_law_joined" = some (some (.ref f__law_joined)))
    (l__law_joined : K.lookup f__law_joined = some ⟨oc__law_joined, od__law_joined, .func (PySem.W.fnOf "_law_joined" "_law_joined" (defArgs sLawJoined) (defBody sLawJoined) (defScope sLawJoined) .none kV__law_joined dc__law_joined pm__law_joined an__law_joined cd__law_joined ct__law_joined), sl__law_joined⟩)
    (c__law_joined : PySem.W.codeIn K cd__law_joined "_law_joined" = true)
    (k__law_joined : PySem.W.keepIn K (.ref f__law_joined) = true)
    (a__law_covers : PySem.W.nsIn K mainGlobals "_law_covers" = some (some (.ref f__law_covers)))
    (l__law_covers : K.lookup f__law_covers = some ⟨oc__law_covers, od__law_covers, .func (PySem.W.fnOf "_law_covers" "_law_covers" (defArgs sLawCovers) (defBody sLawCovers) (defScope sLawCovers) .none kV__law_covers dc__law_covers pm__law_covers an__law_covers cd__law_covers ct__law_covers), sl__law_covers⟩)
    (c__law_covers : PySem.W.codeIn K cd__law_covers "_law_covers" = true)
    (k__law_covers : PySem.W.keepIn K (.ref f__law_covers) = true)
    (a__law_unlike : PySem.W.nsIn K mainGlobals "_law_unlike" = some (some (.ref f__law_unlike)))
    (l__law_unlike : K.lookup f__law_unlike = some ⟨oc__law_unlike, od__law_unlike, .func (PySem.W.fnOf "_law_unlike" "_law_unlike" (defArgs sLawUnlike) (defBody sLawUnlike) (defScope sLawUnlike) .none kV__law_unlike dc__law_unlike pm__law_unlike an__law_unlike cd__law_unlike ct__law_unlike), sl__law_unlike⟩)
    (c__law_unlike : PySem.W.codeIn K cd__law_unlike "_law_unlike" = true)
    (k__law_unlike : PySem.W.keepIn K (.ref f__law_unlike) = true)
    (a__law_forces_right : PySem.W.nsIn K mainGlobals "_law_forces_right" = some (some (.ref f__law_forces_right)))
    (l__law_forces_right : K.lookup f__law_forces_right = some ⟨oc__law_forces_right, od__law_forces_right, .func (PySem.W.fnOf "_law_forces_right" "_law_forces_right" (defArgs sLawForcesRight) (defBody sLawForcesRight) (defScope sLawForcesRight) .none kV__law_forces_right dc__law_forces_right pm__law_forces_right an__law_forces_right cd__law_forces_right ct__law_forces_right), sl__law_forces_right⟩)
    (c__law_forces_right : PySem.W.codeIn K cd__law_forces_right "_law_forces_right" = true)
    (k__law_forces_right : PySem.W.keepIn K (.ref f__law_forces_right) = true)
    (a__law_spots : PySem.W.nsIn K mainGlobals "_law_spots" = some (some (.ref f__law_spots)))
    (l__law_spots : K.lookup f__law_spots = some ⟨oc__law_spots, od__law_spots, .func (PySem.W.fnOf "_law_spots" "_law_spots" (defArgs sLawSpots) (defBody sLawSpots) (defScope sLawSpots) .none kV__law_spots dc__law_spots pm__law_spots an__law_spots cd__law_spots ct__law_spots), sl__law_spots⟩)
    (c__law_spots : PySem.W.codeIn K cd__law_spots "_law_spots" = true)
    (k__law_spots : PySem.W.keepIn K (.ref f__law_spots) = true)
    (a__law_apart : PySem.W.nsIn K mainGlobals "_law_apart" = some (some (.ref f__law_apart)))
    (l__law_apart : K.lookup f__law_apart = some ⟨oc__law_apart, od__law_apart, .func (PySem.W.fnOf "_law_apart" "_law_apart" (defArgs sLawApart) (defBody sLawApart) (defScope sLawApart) .none kV__law_apart dc__law_apart pm__law_apart an__law_apart cd__law_apart ct__law_apart), sl__law_apart⟩)
    (c__law_apart : PySem.W.codeIn K cd__law_apart "_law_apart" = true)
    (k__law_apart : PySem.W.keepIn K (.ref f__law_apart) = true)
    (a_law : PySem.W.nsIn K mainGlobals "law" = some (some (.ref f_law)))
    (l_law : K.lookup f_law = some ⟨oc_law, od_law, .func (PySem.W.fnOf "law" "law" (defArgs sLaw) (defBody sLaw) (defScope sLaw) .none kV_law dc_law pm_law an_law cd_law ct_law), sl_law⟩)
    (c_law : PySem.W.codeIn K cd_law "law" = true)
    (k_law : PySem.W.keepIn K (.ref f_law) = true)
    (a_init : PySem.W.findIn K (.ref C) "__init__" = some (some (.ref f_init)))
    (i_init : PySem.W.isFn K (.ref f_init) = true)
    (l_init : K.lookup f_init = some ⟨oc_init, od_init, .func (PySem.W.fnOf "__init__" "Power.__init__" (defArgs sPowerInit) (defBody sPowerInit) (defScope sPowerInit) .none kV_init dc_init pm_init an_init cd_init ct_init), sl_init⟩)
    (c_init : PySem.W.codeIn K cd_init "Power.__init__" = true)
    (k_init : PySem.W.keepIn K (.ref f_init) = true)
    (a_forces : PySem.W.findIn K (.ref C) "forces" = some (some (.ref f_forces)))
    (i_forces : PySem.W.isFn K (.ref f_forces) = true)
    (l_forces : K.lookup f_forces = some ⟨oc_forces, od_forces, .func (PySem.W.fnOf "forces" "Power.forces" (defArgs sPowerForces) (defBody sPowerForces) (defScope sPowerForces) .none kV_forces dc_forces pm_forces an_forces cd_forces ct_forces), sl_forces⟩)
    (c_forces : PySem.W.codeIn K cd_forces "Power.forces" = true)
    (k_forces : PySem.W.keepIn K (.ref f_forces) = true)
    (a_covers : PySem.W.findIn K (.ref C) "covers" = some (some (.ref f_covers)))
    (i_covers : PySem.W.isFn K (.ref f_covers) = true)
    (l_covers : K.lookup f_covers = some ⟨oc_covers, od_covers, .func (PySem.W.fnOf "covers" "Power.covers" (defArgs sPowerCovers) (defBody sPowerCovers) (defScope sPowerCovers) .none kV_covers dc_covers pm_covers an_covers cd_covers ct_covers), sl_covers⟩)
    (c_covers : PySem.W.codeIn K cd_covers "Power.covers" = true)
    (k_covers : PySem.W.keepIn K (.ref f_covers) = true)
    (a_eq : PySem.W.findIn K (.ref C) "__eq__" = some (some (.ref f_eq)))
    (i_eq : PySem.W.isFn K (.ref f_eq) = true)
    (l_eq : K.lookup f_eq = some ⟨oc_eq, od_eq, .func (PySem.W.fnOf "__eq__" "Power.__eq__" (defArgs sPowerEq) (defBody sPowerEq) (defScope sPowerEq) .none kV_eq dc_eq pm_eq an_eq cd_eq ct_eq), sl_eq⟩)
    (c_eq : PySem.W.codeIn K cd_eq "Power.__eq__" = true)
    (k_eq : PySem.W.keepIn K (.ref f_eq) = true)
    (a_invert : PySem.W.findIn K (.ref C) "__invert__" = some (some (.ref f_invert)))
    (i_invert : PySem.W.isFn K (.ref f_invert) = true)
    (l_invert : K.lookup f_invert = some ⟨oc_invert, od_invert, .func (PySem.W.fnOf "__invert__" "Power.__invert__" (defArgs sPowerInvert) (defBody sPowerInvert) (defScope sPowerInvert) .none kV_invert dc_invert pm_invert an_invert cd_invert ct_invert), sl_invert⟩)
    (c_invert : PySem.W.codeIn K cd_invert "Power.__invert__" = true)
    (k_invert : PySem.W.keepIn K (.ref f_invert) = true)
    (a_or : PySem.W.findIn K (.ref C) "__or__" = some (some (.ref f_or)))
    (i_or : PySem.W.isFn K (.ref f_or) = true)
    (l_or : K.lookup f_or = some ⟨oc_or, od_or, .func (PySem.W.fnOf "__or__" "Power.__or__" (defArgs sPowerOr) (defBody sPowerOr) (defScope sPowerOr) .none kV_or dc_or pm_or an_or cd_or ct_or), sl_or⟩)
    (c_or : PySem.W.codeIn K cd_or "Power.__or__" = true)
    (k_or : PySem.W.keepIn K (.ref f_or) = true)
    (a_and : PySem.W.findIn K (.ref C) "__and__" = some (some (.ref f_and)))
    (i_and : PySem.W.isFn K (.ref f_and) = true)
    (l_and : K.lookup f_and = some ⟨oc_and, od_and, .func (PySem.W.fnOf "__and__" "Power.__and__" (defArgs sPowerAnd) (defBody sPowerAnd) (defScope sPowerAnd) .none kV_and dc_and pm_and an_and cd_and ct_and), sl_and⟩)
    (c_and : PySem.W.codeIn K cd_and "Power.__and__" = true)
    (k_and : PySem.W.keepIn K (.ref f_and) = true)
    (a_outcomes : PySem.W.findIn K (.ref C) "outcomes" = some (some (.ref p_outcomes)))
    (g_outcomes : PySem.W.specialIn K (.ref p_outcomes) "__get__" = some (some (.builtin "property.__get__")))
    (t_outcomes : PySem.W.takesIn K (.ref p_outcomes) = some true)
    (r_outcomes : PySem.W.recIn K p_outcomes "property" = some (.ref f_outcomes :: routcomes))
    (l_outcomes : K.lookup f_outcomes = some ⟨oc_outcomes, od_outcomes, .func (PySem.W.fnOf "outcomes" "Power.outcomes" (defArgs sPowerOutcomes) (defBody sPowerOutcomes) (defScope sPowerOutcomes) .none kV_outcomes dc_outcomes pm_outcomes an_outcomes cd_outcomes ct_outcomes), sl_outcomes⟩)
    (c_outcomes : PySem.W.codeIn K cd_outcomes "Power.outcomes" = true)
    (k_outcomes : PySem.W.keepIn K (.ref f_outcomes) = true)
    (a_sets : PySem.W.findIn K (.ref C) "sets" = some (some (.ref p_sets)))
    (g_sets : PySem.W.specialIn K (.ref p_sets) "__get__" = some (some (.builtin "property.__get__")))
    (t_sets : PySem.W.takesIn K (.ref p_sets) = some true)
    (r_sets : PySem.W.recIn K p_sets "property" = some (.ref f_sets :: rsets))
    (l_sets : K.lookup f_sets = some ⟨oc_sets, od_sets, .func (PySem.W.fnOf "sets" "Power.sets" (defArgs sPowerSets) (defBody sPowerSets) (defScope sPowerSets) .none kV_sets dc_sets pm_sets an_sets cd_sets ct_sets), sl_sets⟩)
    (c_sets : PySem.W.codeIn K cd_sets "Power.sets" = true)
    (k_sets : PySem.W.keepIn K (.ref f_sets) = true)
    (a_even : PySem.W.findIn K (.ref C) "even" = some (some (.ref p_even)))
    (g_even : PySem.W.specialIn K (.ref p_even) "__get__" = some (some (.builtin "property.__get__")))
    (t_even : PySem.W.takesIn K (.ref p_even) = some true)
    (r_even : PySem.W.recIn K p_even "property" = some (.ref f_even :: reven))
    (l_even : K.lookup f_even = some ⟨oc_even, od_even, .func (PySem.W.fnOf "even" "Power.even" (defArgs sPowerEven) (defBody sPowerEven) (defScope sPowerEven) .none kV_even dc_even pm_even an_even cd_even ct_even), sl_even⟩)
    (c_even : PySem.W.codeIn K cd_even "Power.even" = true)
    (k_even : PySem.W.keepIn K (.ref f_even) = true)
    (a_un : PySem.W.findIn K (.ref U) "__init__" = some (some (.ref f_un)))
    (l_un : K.lookup f_un = some ⟨oc_un, od_un, .func (PySem.W.fnOf "__init__" "UnlikeOutcomes.__init__" (defArgs sUnlike) (defBody sUnlike) (defScope sUnlike) .none kV_un dc_un pm_un an_un cd_un ct_un), sl_un⟩)
    (c_un : PySem.W.codeIn K cd_un "UnlikeOutcomes.__init__" = true)
    (k_un : PySem.W.keepIn K (.ref f_un) = true)
    (mk : PySem.W.makesIn K C = true)
    (kc : PySem.W.keepIn K (.ref C) = true)
    (pg : PySem.W.plainGet K C Str.empty = true)
    (hd : PySem.W.hasDictIn K C = true)
    (po : PySem.W.plainOver K C = true)
    (sa : PySem.W.findIn K (.ref C) "__setattr__" = some (some (.builtin "object.__setattr__")))
    (nN : PySem.W.findIn K (.ref C) "names" = some none)
    (nL : PySem.W.findIn K (.ref C) "least" = some none)
    (sf : PySem.W.selfFirst K C = true)
    (nf : PySem.W.notFirst K C (.ref C) = true)
    (ne : PySem.W.findIn K (.ref C) "__ne__" = some (some (.builtin "object.__ne__")))
    (ob : PySem.W.mroIn K C (.type "object") = some true)
    (iA : PySem.W.findIn K (.ref C) "__class__" = some (some (.builtin "object.__class__")))
    (iN : PySem.W.specialIn K (.builtin "object.__class__") "__get__" = some (some (.builtin "getset_descriptor.__get__")))
    (iT : PySem.W.takesIn K (.builtin "object.__class__") = some true)
    (xL : K.lookup U = some (excClassObj nm qn U NN bs bm true sn sub ab col dd m0 m1 m2 m3 m5 "ValueError.__new__"))
    (xB : PySem.HandSPX.refsVE bm = true)
    (xa : PySem.W.findIn K (.ref U) "__setattr__" = some (some (.builtin "object.__setattr__")))
    (xe : PySem.W.subIn K (.ref U) (.type "BaseException") = some true)
    (xt : PySem.W.typeIn K (.ref U) = some (.type "type"))
    (xk : PySem.W.keepIn K (.ref U) = true)
    (xg : PySem.W.findIn K (.ref U) "__getattribute__" = some (some (.builtin "BaseException.__getattribute__")))
    (xh : PySem.W.findIn K (.ref U) "__getattr__" = some none)
    (xd : PySem.W.hasDictIn K U = true)
    (xn : PySem.W.findIn K (.ref U) "names" = some none)
    (xi : PySem.W.typeIn K (.ref f_un) = some (.type "function"))
    (xc : PySem.W.isClsIn K U = true)
    (xs : PySem.W.subIn K (.ref U) (.ref U) = some true)
    (yS : PySem.W.specialIn K (.ref B) "__getattribute__" = some (some (.builtin "type.__getattribute__")))
    (yT : PySem.W.typeIn K (.ref B) = some (.type "type"))
    (yR : PySem.W.readsIn K B (.type "type") = true)
    (yV : PySem.W.findCls K (.ref B) (.type "type") "__init__" = some (.val (.builtin "ValueError.__init__")))
    (z_len : PySem.W.nsIn K mainGlobals "len" = some none)
    (z_sorted : PySem.W.nsIn K mainGlobals "sorted" = some none)
    (z_tuple : PySem.W.nsIn K mainGlobals "tuple" = some none)
    (z_list : PySem.W.nsIn K mainGlobals "list" = some none)
    (z_set : PySem.W.nsIn K mainGlobals "set" = some none)
    (z_any : PySem.W.nsIn K mainGlobals "any" = some none)
    (z_all : PySem.W.nsIn K mainGlobals "all" = some none)
    (z_isinstance : PySem.W.nsIn K mainGlobals "isinstance" = some none)
    (z_range : PySem.W.nsIn K mainGlobals "range" = some none)
    (z_int : PySem.W.nsIn K mainGlobals "int" = some none)
    (z_abs : PySem.W.nsIn K mainGlobals "abs" = some none)
    (z_str : PySem.W.nsIn K mainGlobals "str" = some none)
    (z_bool : PySem.W.nsIn K mainGlobals "bool" = some none)
    (zL : PySem.W.nsIn K mainGlobals "LETTERS" = some (some (.str letters tL)))
    (zD : PySem.W.nsIn K mainGlobals "DIGITS" = some (some (.str digits tD)))
    (zN : PySem.W.nsIn K mainGlobals "LONGEST" = some (some (.int 6 tN)))
    (zM : PySem.W.nsIn K mainGlobals "MOST_OUTCOMES" = some (some (.int 6 tM)))
    : ∃ fd : FuncData, (∀ (s : Shared) (v : Value), BindsTo s fd ⟨[v], []⟩ [("_law_script", v)]) ∧ ∀ base : Heap, K.In base → base.Ns mainGlobals mg → FnOk P w K mg base CX0 9 fa fd ["_law_script"] (spLaw K) := by
  have e := hfa.symm.trans (PySem.W.mg_of X G a_law)
  cases e
  refine ⟨PySem.W.fnOf "law" "law" (defArgs sLaw) (defBody sLaw) (defScope sLaw) .none kV_law dc_law pm_law an_law cd_law ct_law, fun s v => .of_eq rfl, fun base _ _ => ?_⟩
  have F_un := fun_mk (st := sUnlike) l_un c_un k_un
  exact chain (Txt.mk tL tD tN tM (PySem.W.mg_none_of X G z_len) (PySem.W.mg_none_of X G z_sorted) (PySem.W.mg_none_of X G z_tuple) (PySem.W.mg_none_of X G z_list) (PySem.W.mg_none_of X G z_set) (PySem.W.mg_none_of X G z_any) (PySem.W.mg_none_of X G z_all) (PySem.W.mg_none_of X G z_isinstance) (PySem.W.mg_none_of X G z_range) (PySem.W.mg_none_of X G z_int) (PySem.W.mg_none_of X G z_abs) (PySem.W.mg_none_of X G z_str) (PySem.W.mg_none_of X G z_bool) (PySem.W.mg_of X G zL) (PySem.W.mg_of X G zD) (PySem.W.mg_of X G zN) (PySem.W.mg_of X G zM))
    (PwT.mk C f_init ⟨mk, a_init, i_init, kc⟩ ⟨pg, hd, po, sa⟩ nN nL (PySem.W.mg_of X G aC) sf nf ne ob iA iN iT kit_self)
    (ExT.mk U B f_un _ (PySem.W.mg_of X G aU) (PySem.W.mg_of X G aB) ⟨⟨nm, qn, NN, bs, bm, sn, sub, ab, col, dd, m0, m1, m2, m3, m5, xL, xB⟩, xa, xe, xt, xk⟩ ⟨xg, xh, xe, xd⟩ xn a_un xi (exm_self xe xc xt xs) yS yT yR yV F_un (F_un.binds (ps := ["self", "names"]) fun _ _ _ _ _ _ us hl => match us, hl with | [_, _], _ => rfl))
    (fun_mk (st := sValidName) l_valid_name c_valid_name k_valid_name) (PySem.W.mg_of X G a_valid_name)
    (fun_mk (st := sIsPart) l_is_part c_is_part k_is_part) (PySem.W.mg_of X G a_is_part)
    (fun_mk (st := sCheckNumber) l_check_number c_check_number k_check_number) (PySem.W.mg_of X G a_check_number)
    (fun_mk (st := sCheckDifferent) l_check_different c_check_different k_check_different) (PySem.W.mg_of X G a_check_different)
    (fun_mk (st := sSetRank) l_set_rank c_set_rank k_set_rank) (PySem.W.mg_of X G a_set_rank)
    (fun_mk (st := sAllSets) l_all_sets c_all_sets k_all_sets) (PySem.W.mg_of X G a_all_sets)
    (fun_mk (st := sIsSet) l_is_set c_is_set k_is_set) (PySem.W.mg_of X G a_is_set)
    (fun_mk (st := sLiesIn) l_lies_in c_lies_in k_lies_in) (PySem.W.mg_of X G a_lies_in)
    (fun_mk (st := sMinimalSets) l_minimal_sets c_minimal_sets k_minimal_sets) (PySem.W.mg_of X G a_minimal_sets)
    (fun_mk (st := sMeet) l_meet c_meet k_meet) (PySem.W.mg_of X G a_meet)
    (fun_mk (st := sMeetsAll) l_meets_all c_meets_all k_meets_all) (PySem.W.mg_of X G a_meets_all)
    (fun_mk (st := sCheckLike) l_check_like c_check_like k_check_like) (PySem.W.mg_of X G a_check_like)
    (fun_mk (st := sDualSets) l_dual_sets c_dual_sets k_dual_sets) (PySem.W.mg_of X G a_dual_sets)
    (fun_mk (st := sLawStart) l__law_start c__law_start k__law_start) (PySem.W.mg_of X G a__law_start)
    (fun_mk (st := sLawDraw) l__law_draw c__law_draw k__law_draw) (PySem.W.mg_of X G a__law_draw)
    (fun_mk (st := sLawNames) l__law_names c__law_names k__law_names) (PySem.W.mg_of X G a__law_names)
    (fun_mk (st := sLawSets) l__law_sets c__law_sets k__law_sets) (PySem.W.mg_of X G a__law_sets)
    (fun_mk (st := sLawFamilies) l__law_families c__law_families k__law_families) (PySem.W.mg_of X G a__law_families)
    (fun_mk (st := sLawForced) l__law_forced c__law_forced k__law_forced) (PySem.W.mg_of X G a__law_forced)
    (fun_mk (st := sLawLeast) l__law_least c__law_least k__law_least) (PySem.W.mg_of X G a__law_least)
    (fun_mk (st := sLawDual) l__law_dual c__law_dual k__law_dual) (PySem.W.mg_of X G a__law_dual)
    (fun_mk (st := sLawTold) l__law_told c__law_told k__law_told) (PySem.W.mg_of X G a__law_told)
    (fun_mk (st := sLawJoined) l__law_joined c__law_joined k__law_joined) (PySem.W.mg_of X G a__law_joined)
    (fun_mk (st := sLawCovers) l__law_covers c__law_covers k__law_covers) (PySem.W.mg_of X G a__law_covers)
    (fun_mk (st := sLawUnlike) l__law_unlike c__law_unlike k__law_unlike) (PySem.W.mg_of X G a__law_unlike)
    (fun_mk (st := sLawForcesRight) l__law_forces_right c__law_forces_right k__law_forces_right) (PySem.W.mg_of X G a__law_forces_right)
    (fun_mk (st := sLawSpots) l__law_spots c__law_spots k__law_spots) (PySem.W.mg_of X G a__law_spots)
    (fun_mk (st := sLawApart) l__law_apart c__law_apart k__law_apart) (PySem.W.mg_of X G a__law_apart)
    (fun_mk (st := sLaw) l_law c_law k_law) (PySem.W.mg_of X G a_law)
    (fun_mk (st := sPowerInit) l_init c_init k_init)
    (fun_mk (st := sPowerForces) l_forces c_forces k_forces) ⟨a_forces, i_forces, k_forces⟩
    (fun_mk (st := sPowerCovers) l_covers c_covers k_covers) ⟨a_covers, i_covers, k_covers⟩
    (fun_mk (st := sPowerEq) l_eq c_eq k_eq) ⟨a_eq, i_eq, k_eq⟩
    (fun_mk (st := sPowerInvert) l_invert c_invert k_invert) ⟨a_invert, i_invert, k_invert⟩
    (fun_mk (st := sPowerOr) l_or c_or k_or) ⟨a_or, i_or, k_or⟩
    (fun_mk (st := sPowerAnd) l_and c_and k_and) ⟨a_and, i_and, k_and⟩
    (fun_mk (st := sPowerOutcomes) l_outcomes c_outcomes k_outcomes) ⟨a_outcomes, g_outcomes, t_outcomes, ⟨_, r_outcomes⟩⟩
    (fun_mk (st := sPowerSets) l_sets c_sets k_sets) ⟨a_sets, g_sets, t_sets, ⟨_, r_sets⟩⟩
    (fun_mk (st := sPowerEven) l_even c_even k_even) ⟨a_even, g_even, t_even, ⟨_, r_even⟩⟩
end L2.K25

open PySem PySem.W PyProof.Rows in
set_option maxRecDepth 100000 in
set_option maxHeartbeats 0 in
open_top hd for PySem.Challenge.rw_twochoosers_k25_whole_power_operators
open PySem PySem.W PyProof.Rows in
set_option maxRecDepth 100000 in
set_option maxHeartbeats 0 in
theorem PySem.Challenge.cw_twochoosers_k25_whole_power_operators_holds : PySem.Challenge.rw_twochoosers_k25_whole_power_operators.Holds := by
  refine hd ?_
  k_fill
  refine L2.walk_of (l := PySem.Challenge.rw_twochoosers_k25_whole_power_operators) (n := 63) (k := 9) (x := "_law_script") (CX := fun _ => L2.CX0) (sp := fun w => L2.K25.spLaw _) rfl (by decide) rfl ⟨rfl, by decide, by decide⟩ (fun w h Y => PySem.W.kIn_of Y) ?F (fun _ _ a ns hl _ hS => ⟨a, ns, rfl, hS, hl, fun _ => rfl⟩) (fun _ _ _ _ _ z => z)
  case F =>
    intro w mg fa h KX G hmg
    refine' L2.K25.all_mk KX G hmg ?aC ?aU ?aB ?a_valid_name ?l_valid_name ?c_valid_name ?k_valid_name ?a_is_part ?l_is_part ?c_is_part ?k_is_part ?a_check_number ?l_check_number ?c_check_number ?k_check_number ?a_check_different ?l_check_different ?c_check_different ?k_check_different ?a_set_rank ?l_set_rank ?c_set_rank ?k_set_rank ?a_all_sets ?l_all_sets ?c_all_sets ?k_all_sets ?a_is_set ?l_is_set ?c_is_set ?k_is_set ?a_lies_in ?l_lies_in ?c_lies_in ?k_lies_in ?a_minimal_sets ?l_minimal_sets ?c_minimal_sets ?k_minimal_sets ?a_meet ?l_meet ?c_meet ?k_meet ?a_meets_all ?l_meets_all ?c_meets_all ?k_meets_all ?a_check_like ?l_check_like ?c_check_like ?k_check_like ?a_dual_sets ?l_dual_sets ?c_dual_sets ?k_dual_sets ?a__law_start ?l__law_start ?c__law_start ?k__law_start ?a__law_draw ?l__law_draw ?c__law_draw ?k__law_draw ?a__law_names ?l__law_names ?c__law_names ?k__law_names ?a__law_sets ?l__law_sets ?c__law_sets ?k__law_sets ?a__law_families ?l__law_families ?c__law_families ?k__law_families ?a__law_forced ?l__law_forced ?c__law_forced ?k__law_forced ?a__law_least ?l__law_least ?c__law_least ?k__law_least ?a__law_dual ?l__law_dual ?c__law_dual ?k__law_dual ?a__law_told ?l__law_told ?c__law_told ?k__law_told ?a__law_joined ?l__law_joined ?c__law_joined ?k__law_joined ?a__law_covers ?l__law_covers ?c__law_covers ?k__law_covers ?a__law_unlike ?l__law_unlike ?c__law_unlike ?k__law_unlike ?a__law_forces_right ?l__law_forces_right ?c__law_forces_right ?k__law_forces_right ?a__law_spots ?l__law_spots ?c__law_spots ?k__law_spots ?a__law_apart ?l__law_apart ?c__law_apart ?k__law_apart ?a_law ?l_law ?c_law ?k_law ?a_init ?i_init ?l_init ?c_init ?k_init ?a_forces ?i_forces ?l_forces ?c_forces ?k_forces ?a_covers ?i_covers ?l_covers ?c_covers ?k_covers ?a_eq ?i_eq ?l_eq ?c_eq ?k_eq ?a_invert ?i_invert ?l_invert ?c_invert ?k_invert ?a_or ?i_or ?l_or ?c_or ?k_or ?a_and ?i_and ?l_and ?c_and ?k_and ?a_outcomes ?g_outcomes ?t_outcomes ?r_outcomes ?l_outcomes ?c_outcomes ?k_outcomes ?a_sets ?g_sets ?t_sets ?r_sets ?l_sets ?c_sets ?k_sets ?a_even ?g_even ?t_even ?r_even ?l_even ?c_even ?k_even ?a_un ?l_un ?c_un ?k_un ?mk ?kc ?pg ?hd ?po ?sa ?nN ?nL ?sf ?nf ?ne ?ob ?iA ?iN ?iT ?xL ?xB ?xa ?xe ?xt ?xk ?xg ?xh ?xd ?xn ?xi ?xc ?xs ?yS ?yT ?yR ?yV ?z_len ?z_sorted ?z_tuple ?z_list ?z_set ?z_any ?z_all ?z_isinstance ?z_range ?z_int ?z_abs ?z_str ?z_bool ?zL ?zD ?zN ?zM
    (case aC => k_is)
    (case aU => k_is)
    (case aB => k_is)
    (case a_valid_name => k_is)
    (case l_valid_name => k_is)
    (case c_valid_name => k_is)
    (case k_valid_name => k_is)
    (case a_is_part => k_is)
    (case l_is_part => k_is)
    (case c_is_part => k_is)
    (case k_is_part => k_is)
    (case a_check_number => k_is)
    (case l_check_number => k_is)
    (case c_check_number => k_is)
    (case k_check_number => k_is)
    (case a_check_different => k_is)
    (case l_check_different => k_is)
    (case c_check_different => k_is)
    (case k_check_different => k_is)
    (case a_set_rank => k_is)
    (case l_set_rank => k_is)
    (case c_set_rank => k_is)
    (case k_set_rank => k_is)
    (case a_all_sets => k_is)
    (case l_all_sets => k_is)
    (case c_all_sets => k_is)
    (case k_all_sets => k_is)
    (case a_is_set => k_is)
    (case l_is_set => k_is)
    (case c_is_set => k_is)
    (case k_is_set => k_is)
    (case a_lies_in => k_is)
    (case l_lies_in => k_is)
    (case c_lies_in => k_is)
    (case k_lies_in => k_is)
    (case a_minimal_sets => k_is)
    (case l_minimal_sets => k_is)
    (case c_minimal_sets => k_is)
    (case k_minimal_sets => k_is)
    (case a_meet => k_is)
    (case l_meet => k_is)
    (case c_meet => k_is)
    (case k_meet => k_is)
    (case a_meets_all => k_is)
    (case l_meets_all => k_is)
    (case c_meets_all => k_is)
    (case k_meets_all => k_is)
    (case a_check_like => k_is)
    (case l_check_like => k_is)
    (case c_check_like => k_is)
    (case k_check_like => k_is)
    (case a_dual_sets => k_is)
    (case l_dual_sets => k_is)
    (case c_dual_sets => k_is)
    (case k_dual_sets => k_is)
    (case a__law_start => k_is)
    (case l__law_start => k_is)
    (case c__law_start => k_is)
    (case k__law_start => k_is)
    (case a__law_draw => k_is)
    (case l__law_draw => k_is)
    (case c__law_draw => k_is)
    (case k__law_draw => k_is)
    (case a__law_names => k_is)
    (case l__law_names => k_is)
    (case c__law_names => k_is)
    (case k__law_names => k_is)
    (case a__law_sets => k_is)
    (case l__law_sets => k_is)
    (case c__law_sets => k_is)
    (case k__law_sets => k_is)
    (case a__law_families => k_is)
    (case l__law_families => k_is)
    (case c__law_families => k_is)
    (case k__law_families => k_is)
    (case a__law_forced => k_is)
    (case l__law_forced => k_is)
    (case c__law_forced => k_is)
    (case k__law_forced => k_is)
    (case a__law_least => k_is)
    (case l__law_least => k_is)
    (case c__law_least => k_is)
    (case k__law_least => k_is)
    (case a__law_dual => k_is)
    (case l__law_dual => k_is)
    (case c__law_dual => k_is)
    (case k__law_dual => k_is)
    (case a__law_told => k_is)
    (case l__law_told => k_is)
    (case c__law_told => k_is)
    (case k__law_told => k_is)
    (case a__law_joined => k_is)
    (case l__law_joined => k_is)
    (case c__law_joined => k_is)
    (case k__law_joined => k_is)
    (case a__law_covers => k_is)
    (case l__law_covers => k_is)
    (case c__law_covers => k_is)
    (case k__law_covers => k_is)
    (case a__law_unlike => k_is)
    (case l__law_unlike => k_is)
    (case c__law_unlike => k_is)
    (case k__law_unlike => k_is)
    (case a__law_forces_right => k_is)
    (case l__law_forces_right => k_is)
    (case c__law_forces_right => k_is)
    (case k__law_forces_right => k_is)
    (case a__law_spots => k_is)
    (case l__law_spots => k_is)
    (case c__law_spots => k_is)
    (case k__law_spots => k_is)
    (case a__law_apart => k_is)
    (case l__law_apart => k_is)
    (case c__law_apart => k_is)
    (case k__law_apart => k_is)
    (case a_law => k_is)
    (case l_law => k_is)
    (case c_law => k_is)
    (case k_law => k_is)
    (case a_init => k_is)
    (case i_init => k_is)
    (case l_init => k_is)
    (case c_init => k_is)
    (case k_init => k_is)
    (case a_forces => k_is)
    (case i_forces => k_is)
    (case l_forces => k_is)
    (case c_forces => k_is)
    (case k_forces => k_is)
    (case a_covers => k_is)
    (case i_covers => k_is)
    (case l_covers => k_is)
    (case c_covers => k_is)
    (case k_covers => k_is)
    (case a_eq => k_is)
    (case i_eq => k_is)
    (case l_eq => k_is)
    (case c_eq => k_is)
    (case k_eq => k_is)
    (case a_invert => k_is)
    (case i_invert => k_is)
    (case l_invert => k_is)
    (case c_invert => k_is)
    (case k_invert => k_is)
    (case a_or => k_is)
    (case i_or => k_is)
    (case l_or => k_is)
    (case c_or => k_is)
    (case k_or => k_is)
    (case a_and => k_is)
    (case i_and => k_is)
    (case l_and => k_is)
    (case c_and => k_is)
    (case k_and => k_is)
    (case a_outcomes => k_is)
    (case g_outcomes => k_is)
    (case t_outcomes => k_is)
    (case r_outcomes => k_is)
    (case l_outcomes => k_is)
    (case c_outcomes => k_is)
    (case k_outcomes => k_is)
    (case a_sets => k_is)
    (case g_sets => k_is)
    (case t_sets => k_is)
    (case r_sets => k_is)
    (case l_sets => k_is)
    (case c_sets => k_is)
    (case k_sets => k_is)
    (case a_even => k_is)
    (case g_even => k_is)
    (case t_even => k_is)
    (case r_even => k_is)
    (case l_even => k_is)
    (case c_even => k_is)
    (case k_even => k_is)
    (case a_un => k_is)
    (case l_un => k_is)
    (case c_un => k_is)
    (case k_un => k_is)
    (case mk => k_is)
    (case kc => k_is)
    (case pg => k_is)
    (case hd => k_is)
    (case po => k_is)
    (case sa => k_is)
    (case nN => k_is)
    (case nL => k_is)
    (case sf => k_is)
    (case nf => k_is)
    (case ne => k_is)
    (case ob => k_is)
    (case iA => k_is)
    (case iN => k_is)
    (case iT => k_is)
    (case xL => k_is)
    (case xB => first | decide +kernel | rfl | k_is)
    (case xa => k_is)
    (case xe => k_is)
    (case xt => k_is)
    (case xk => k_is)
    (case xg => k_is)
    (case xh => k_is)
    (case xd => k_is)
    (case xn => k_is)
    (case xi => k_is)
    (case xc => k_is)
    (case xs => first | rfl | k_is)
    (case yS => k_is)
    (case yT => k_is)
    (case yR => k_is)
    (case yV => k_is)
    (case z_len => k_is)
    (case z_sorted => k_is)
    (case z_tuple => k_is)
    (case z_list => k_is)
    (case z_set => k_is)
    (case z_any => k_is)
    (case z_all => k_is)
    (case z_isinstance => k_is)
    (case z_range => k_is)
    (case z_int => k_is)
    (case z_abs => k_is)
    (case z_str => k_is)
    (case z_bool => k_is)
    (case zL => k_is)
    (case zD => k_is)
    (case zN => k_is)
    (case zM => k_is)
