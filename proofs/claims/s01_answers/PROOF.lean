import PyProof.Rows.All
import Sy76Spec
import Wide.All
import OpenK.AllK
import Wide.FinOn
import PyProof.EqAt
import PyProof.EqKinds
import PyProof.TupleCall
import Open.SpecLaws
import KE.OsGo
import HandS.ForSpec
import HandS.Comp
import HandS.Style
import HandS.Iter
import HandS.Conv
import HandS.Strs
import HandS.SetFor
import KE.SortData
import PySem.Challenge.RW_stencilwall_s01_answers
import HandS.ExcInit
import HandS.ExcField
import PySy76
set_option Elab.async false
set_option linter.all false
set_option maxRecDepth 100000
set_option maxHeartbeats 4000000
namespace SW
open Sy76 (St open_ last ways before put)

/-! ### strictly sorted lists of rows of sprays -/
abbrev Row := List (Nat × Nat)
theorem before_irr : ∀ a : Row, before a a = false
  | [] => rfl
  | x :: l => by
    unfold before
    simp [before_irr l]
theorem before_tr : ∀ a b c : Row, before a b = true → before b c = true → before a c = true
  | [], [], _, h, _ => by simp [before] at h
  | [], _ :: _, [], _, h => by simp [before] at h
  | [], _ :: _, _ :: _, _, _ => rfl
  | x :: l, [], _, h, _ => by simp [before] at h
  | x :: l, y :: r, [], _, h => by simp [before] at h
  | x :: l, y :: r, z :: q, h1, h2 => by
    unfold before at h1 h2 ⊢
    simp only [Bool.or_eq_true, decide_eq_true_eq, Bool.and_eq_true, beq_iff_eq] at h1 h2 ⊢
    rcases h1 with (h1 | h1) | h1
    · rcases h2 with (h2 | h2) | h2
      · exact .inl (.inl (Nat.lt_trans h1 h2))
      · exact .inl (.inl (by rw [← h2.1]; exact h1))
      · exact .inl (.inl (by rw [← h2.1]; exact h1))
    · rcases h2 with (h2 | h2) | h2
      · exact .inl (.inl (by rw [h1.1]; exact h2))
      · exact .inl (.inr ⟨h1.1.trans h2.1, Nat.lt_trans h1.2 h2.2⟩)
      · exact .inl (.inr (by rw [← h2.1]; exact h1))
    · rcases h2 with (h2 | h2) | h2
      · exact .inl (.inl (by rw [h1.1]; exact h2))
      · exact .inl (.inr (by rw [h1.1]; exact h2))
      · exact .inr ⟨h1.1.trans h2.1, before_tr l r q h1.2 h2.2⟩
theorem before_tot : ∀ a b : Row, before a b = false → a ≠ b → before b a = true
  | [], [], _, h => absurd rfl h
  | [], _ :: _, h, _ => by simp [before] at h
  | _ :: _, [], _, _ => rfl
  | (x1, x2) :: l, (y1, y2) :: r, h, hn => by
    unfold before at h ⊢
    simp only [Bool.or_eq_false_iff, decide_eq_false_iff_not, Bool.and_eq_false_imp, beq_iff_eq] at h
    simp only [Bool.or_eq_true, decide_eq_true_eq, Bool.and_eq_true, beq_iff_eq]
    obtain ⟨⟨h1, h2⟩, h3⟩ := h
    by_cases e1 : y1 < x1
    · exact .inl (.inl e1)
    · have e : x1 = y1 := by omega
      have h2' := h2 e
      by_cases e2 : y2 < x2
      · exact .inl (.inr ⟨e.symm, e2⟩)
      · have e' : x2 = y2 := by omega
        subst e; subst e'
        have h3' := h3 rfl
        exact .inr ⟨rfl, before_tot l r h3' (fun z => hn (by rw [z]))⟩
def SS (l : List Row) : Prop := l.Pairwise fun a b => before a b = true
theorem mem_put {x p : Row} : ∀ {l : List Row}, x ∈ put p l ↔ x = p ∨ x ∈ l
  | [] => by simp [put]
  | q :: l => by
    unfold put
    split
    · rename_i e; subst e; simp
    · split
      · simp
      · simp only [List.mem_cons, mem_put (l := l)]
        constructor
        · rintro (h | h | h)
          · exact .inr (.inl h)
          · exact .inl h
          · exact .inr (.inr h)
        · rintro (h | h | h)
          · exact .inr (.inl h)
          · exact .inl h
          · exact .inr (.inr h)
theorem ss_put {p : Row} : ∀ {l : List Row}, SS l → SS (put p l)
  | [], _ => List.pairwise_singleton _ _
  | q :: l, h => by
    have ⟨h1, h2⟩ := List.pairwise_cons.mp h
    unfold put
    split
    · exact h
    · rename_i hne
      split
      · rename_i hb
        refine List.pairwise_cons.mpr ⟨fun x hx => ?_, h⟩
        rcases List.mem_cons.mp hx with e | hx
        · rw [e]; exact hb
        · exact before_tr _ _ _ hb (h1 x hx)
      · rename_i hb
        refine List.pairwise_cons.mpr ⟨fun x hx => ?_, ss_put h2⟩
        rcases mem_put.mp hx with e | hx
        · rw [e]; exact before_tot _ _ (by simpa using hb) hne
        · exact h1 x hx
/-- the sorted rows -/
def srt (l : List Row) : List Row := l.foldl (fun m p => put p m) []
theorem srt_go : ∀ (l m : List Row), SS m → SS (l.foldl (fun m p => put p m) m) ∧ ∀ x, x ∈ l.foldl (fun m p => put p m) m ↔ x ∈ l ∨ x ∈ m
  | [], m, h => ⟨h, fun x => by simp⟩
  | p :: l, m, h => by
    have ⟨h1, h2⟩ := srt_go l (put p m) (ss_put h)
    refine ⟨h1, fun x => ?_⟩
    rw [List.foldl_cons, h2 x, mem_put, List.mem_cons]
    constructor
    · rintro (h | h | h)
      · exact .inl (.inr h)
      · exact .inl (.inl h)
      · exact .inr h
    · rintro ((h | h) | h)
      · exact .inr (.inl h)
      · exact .inl h
      · exact .inr (.inr h)
theorem ss_srt (l : List Row) : SS (srt l) := (srt_go l [] List.Pairwise.nil).1
theorem mem_srt {l : List Row} {x : Row} : x ∈ srt l ↔ x ∈ l := by
  have h := (srt_go l [] List.Pairwise.nil).2 x
  unfold srt
  rw [h]
  simp
theorem ss_uniq : ∀ {l m : List Row}, SS l → SS m → (∀ x, x ∈ l ↔ x ∈ m) → l = m
  | [], [], _, _, _ => rfl
  | [], y :: m, _, _, h => absurd ((h y).mpr List.mem_cons_self) (by simp)
  | x :: l, [], _, _, h => absurd ((h x).mp List.mem_cons_self) (by simp)
  | x :: l, y :: m, h1, h2, h => by
    have ⟨a1, a2⟩ := List.pairwise_cons.mp h1
    have ⟨b1, b2⟩ := List.pairwise_cons.mp h2
    have e : x = y := by
      rcases List.mem_cons.mp ((h x).mp List.mem_cons_self) with e | hx
      · exact e
      · rcases List.mem_cons.mp ((h y).mpr List.mem_cons_self) with e | hy
        · exact e.symm
        · have z := before_tr _ _ _ (a1 y hy) (b1 x hx)
          rw [before_irr] at z; cases z
    subst e
    have nl : x ∉ l := fun hx => by
      have z := a1 x hx
      rw [before_irr] at z; cases z
    have nm : x ∉ m := fun hx => by
      have z := b1 x hx
      rw [before_irr] at z; cases z
    rw [ss_uniq a2 b2 fun z => ?_]
    constructor
    · intro hz
      rcases List.mem_cons.mp ((h z).mp (List.mem_cons_of_mem _ hz)) with e | hz'
      · rw [e] at hz; exact absurd hz nl
      · exact hz'
    · intro hz
      rcases List.mem_cons.mp ((h z).mpr (List.mem_cons_of_mem _ hz)) with e | hz'
      · rw [e] at hz; exact absurd hz nm
      · exact hz'

/-! ### the program's search -/
def goBack (s : St) : List Nat → List Nat → Row → Option (List Nat × Row)
  | [], h, p => some (h, p)
  | k :: r, h, p => match last s k h with
    | none => none
    | some c => goBack s r (h ++ open_ s k) ((k, c) :: p)
/-- cells that no spray covers and that are otherwise than wanted -/
def miss (s : St) (h : List Nat) : Bool := ((List.range s.wall.length).filter fun i => !h.contains i).any fun i => s.wall.getD i 0 != s.picture.getD i 0
def planBy (s : St) (order : List Nat) : Option Row := match goBack s order.reverse [] [] with
  | none => none
  | some (h, p) => if miss s h = true then none else some p
def ordersOf (l : List Nat) : Nat → List (List Nat)
  | 0 => [[]]
  | m + 1 => l.flatMap fun f => (ordersOf (l.filter fun k => decide (k ≠ f)) m).map fun o => f :: o
termination_by m => m
def plansRaw (s : St) (l : List Nat) (m : Nat) : List Row := (ordersOf l m).filterMap (planBy s)
def plansWith (s : St) (l : List Nat) (m : Nat) : List Row := srt (plansRaw s l m)
/-- the first many of these that has plans -/
def firstOf (s : St) (l : List Nat) : List Nat → List Row
  | [] => []
  | m :: r => if plansWith s l m = [] then firstOf s l r else plansWith s l m
def plansBy (s : St) (l : List Nat) : List Row := firstOf s l (List.range (l.length + 1))
def plansOf (s : St) : List Row := plansBy s (List.range s.stencils.length)
def isNeeded (s : St) (k : Nat) : Bool := decide (plansBy s ((List.range s.stencils.length).filter fun o => decide (o ≠ k)) = [])
def neededOf (s : St) : List Nat := (List.range s.stencils.length).filter (isNeeded s)

/-! ### rows that make the picture -/
def cov (s : St) (p : Row) : List Nat := p.flatMap fun x => open_ s x.1
/-- each spray is seen, last to first; l is what is sprayed behind -/
def Seen (s : St) : Row → Row → Prop
  | [], _ => True
  | x :: q, l => x.1 < s.stencils.length ∧ last s x.1 (cov s (q ++ l)) = some x.2 ∧ Seen s q l
def Covers (s : St) (p : Row) : Prop := (Sy76.wrong s s.wall).all (fun (i : Nat) => (cov s p).contains i) = true
theorem seen_snoc {s : St} {k c : Nat} {l : Row} : ∀ {q : Row}, Seen s (q ++ [(k, c)]) l ↔ Seen s q ((k, c) :: l) ∧ k < s.stencils.length ∧ last s k (cov s l) = some c
  | [] => by simp [Seen]
  | x :: q => by
    simp only [List.cons_append, Seen, seen_snoc (q := q), List.append_assoc, List.nil_append]
    constructor
    · rintro ⟨a, b, c, d, e⟩; exact ⟨⟨a, b, c⟩, d, e⟩
    · rintro ⟨⟨a, b, c⟩, d, e⟩; exact ⟨a, b, c, d, e⟩
theorem mem_ways {s : St} : ∀ (f : Nat) (l p : Row), p ∈ ways s f l ↔ ∃ q, p = q ++ l ∧ q.length ≤ f ∧ Seen s q l ∧ Covers s p
  | 0, l, p => by
    unfold ways
    dsimp only
    constructor
    · intro h
      split at h
      · rename_i hc
        rw [List.mem_singleton] at h
        subst h
        exact ⟨[], rfl, Nat.le_refl _, trivial, hc⟩
      · simp at h
    · rintro ⟨q, rfl, hq, _, hc⟩
      have e : q = [] := List.eq_nil_of_length_eq_zero (Nat.le_zero.mp hq)
      subst e
      have hc' : (Sy76.wrong s s.wall).all (fun (i : Nat) => (l.flatMap fun (x : Nat × Nat) => open_ s x.1).contains i) = true := hc
      rw [if_pos hc']
      simp
  | f + 1, l, p => by
    unfold ways
    dsimp only
    rw [List.mem_append]
    constructor
    · rintro (h | h)
      · split at h
        · rename_i hc
          rw [List.mem_singleton] at h
          subst h
          exact ⟨[], rfl, Nat.zero_le _, trivial, hc⟩
        · simp at h
      · obtain ⟨k, hk, h⟩ := List.mem_flatMap.mp h
        split at h
        · simp at h
        · rename_i c hl
          obtain ⟨q, rfl, hq, hs, hc⟩ := (mem_ways f ((k, c) :: l) p).mp h
          refine ⟨q ++ [(k, c)], by simp, by simp; omega, ?_, hc⟩
          exact seen_snoc.mpr ⟨hs, List.mem_range.mp hk, hl⟩
    · rintro ⟨q, rfl, hq, hs, hc⟩
      rcases List.eq_nil_or_concat q with e | ⟨q', ⟨k, c⟩, e⟩
      · subst e
        left
        have hc' : (Sy76.wrong s s.wall).all (fun (i : Nat) => (l.flatMap fun (x : Nat × Nat) => open_ s x.1).contains i) = true := hc
        rw [if_pos hc']
        simp
      · rw [List.concat_eq_append] at e
        subst e
        right
        have hs' := seen_snoc.mp hs
        refine List.mem_flatMap.mpr ⟨k, List.mem_range.mpr hs'.2.1, ?_⟩
        have hl : last s k (l.flatMap fun (x : Nat × Nat) => open_ s x.1) = some c := hs'.2.2
        rw [hl]
        refine (mem_ways f _ _).mpr ⟨q', by simp, ?_, hs'.1, hc⟩
        simp at hq
        omega

theorem last_congr {s : St} {k : Nat} {h h' : List Nat} (e : ∀ i, i ∈ h ↔ i ∈ h') : last s k h = last s k h' := by
  have e2 : (fun (i : Nat) => !h.contains i) = fun (i : Nat) => !h'.contains i := by
    funext i
    have : h.contains i = h'.contains i := by
      rw [Bool.eq_iff_iff, List.contains_iff_mem, List.contains_iff_mem]
      exact e i
    rw [this]
  unfold last
  rw [e2]
theorem last_none {s : St} {k : Nat} {h : List Nat} (e : ∀ i ∈ open_ s k, i ∈ h) : last s k h = none := by
  have : ((open_ s k).filter fun (i : Nat) => !h.contains i) = [] := by
    rw [List.filter_eq_nil_iff]
    intro a ha
    simp [e a ha]
  unfold last
  rw [this]
theorem seen_nodup {s : St} : ∀ {q : Row}, Seen s q [] → (q.map Prod.fst).Nodup
  | [], _ => List.nodup_nil
  | x :: q, h => by
    rw [List.map_cons, List.nodup_cons]
    refine ⟨fun hm => ?_, seen_nodup h.2.2⟩
    obtain ⟨y, hy, e⟩ := List.mem_map.mp hm
    have z : last s x.1 (cov s (q ++ [])) = none := last_none fun i hi => by
      rw [List.append_nil]
      exact List.mem_flatMap.mpr ⟨y, hy, by rw [e]; exact hi⟩
    rw [h.2.1] at z
    cases z
theorem nodup_len : ∀ (l D : List Nat), l.Nodup → (∀ x ∈ l, x ∈ D) → l.length ≤ D.length
  | [], _, _, _ => Nat.zero_le _
  | x :: l, D, h, hs => by
    have ⟨h1, h2⟩ := List.nodup_cons.mp h
    have hx : x ∈ D := hs x List.mem_cons_self
    have ih := nodup_len l (D.erase x) h2 fun y hy => (List.mem_erase_of_ne (fun e => h1 (by rw [← e]; exact hy))).mpr (hs y (List.mem_cons_of_mem _ hy))
    rw [List.length_erase_of_mem hx] at ih
    have := List.length_pos_of_mem hx
    rw [List.length_cons]
    omega
theorem seen_lt {s : St} : ∀ {q : Row}, Seen s q [] → ∀ k ∈ q.map Prod.fst, k < s.stencils.length
  | [], _, k, h => by simp at h
  | x :: q, h, k, hk => by
    rw [List.map_cons, List.mem_cons] at hk
    rcases hk with e | hk
    · rw [e]; exact h.1
    · exact seen_lt h.2.2 k hk
theorem mem_all {s : St} {p : Row} : p ∈ Sy76.all_ s ↔ Seen s p [] ∧ Covers s p := by
  unfold Sy76.all_
  rw [mem_ways]
  constructor
  · rintro ⟨q, e, _, h1, h2⟩
    rw [List.append_nil] at e
    subst e
    exact ⟨h1, h2⟩
  · rintro ⟨h1, h2⟩
    refine ⟨p, (List.append_nil _).symm, ?_, h1, h2⟩
    have := nodup_len _ (List.range s.stencils.length) (seen_nodup h1) fun x hx => List.mem_range.mpr (seen_lt h1 x hx)
    simpa using this

/-! ### the search finds just these -/
/-- goBack over the order's rest, from what is behind -/
theorem goBack_some {s : St} : ∀ (r h : List Nat) (l : Row) (h' : List Nat) (p : Row), (∀ k ∈ r, k < s.stencils.length) → (∀ i, i ∈ h ↔ i ∈ cov s l) →
    (goBack s r h l = some (h', p) → (∀ i, i ∈ h' ↔ i ∈ cov s p) ∧ ∃ q, p = q ++ l ∧ q.map Prod.fst = r.reverse ∧ Seen s q l)
  | [], h, l, h', p, _, hh, e => by
    unfold goBack at e
    cases e
    exact ⟨hh, [], rfl, rfl, trivial⟩
  | k :: r, h, l, h', p, hr, hh, e => by
    unfold goBack at e
    split at e
    · cases e
    · rename_i c hl
      have hh' : ∀ i, i ∈ h ++ open_ s k ↔ i ∈ cov s ((k, c) :: l) := fun i => by
        have z : cov s ((k, c) :: l) = open_ s k ++ cov s l := rfl
        rw [z, List.mem_append, List.mem_append, hh i]
        exact Or.comm
      obtain ⟨a, q, rfl, e1, e2⟩ := goBack_some r _ _ h' p (fun x hx => hr x (List.mem_cons_of_mem _ hx)) hh' e
      refine ⟨a, q ++ [(k, c)], by simp, by simp [e1], seen_snoc.mpr ⟨e2, hr k List.mem_cons_self, ?_⟩⟩
      rw [← hl]
      exact last_congr fun i => (hh i).symm
theorem goBack_of {s : St} : ∀ (r h : List Nat) (l q : Row), (∀ i, i ∈ h ↔ i ∈ cov s l) → q.map Prod.fst = r.reverse → Seen s q l → ∃ h', goBack s r h l = some (h', q ++ l) ∧ ∀ i, i ∈ h' ↔ i ∈ cov s (q ++ l)
  | [], h, l, q, hh, e, _ => by
    have e' : q = [] := by simpa using e
    subst e'
    exact ⟨h, rfl, hh⟩
  | k :: r, h, l, q, hh, e, hs => by
    rcases List.eq_nil_or_concat q with e' | ⟨q', ⟨k', c⟩, e'⟩
    · subst e'
      simp at e
    · rw [List.concat_eq_append] at e'
      subst e'
      rw [List.map_append, List.reverse_cons] at e
      have ⟨e1, e2⟩ := List.append_inj' e rfl
      have ek : k' = k := by simpa using e2
      subst ek
      have hs' := seen_snoc.mp hs
      have hl : last s k' h = some c := by
        rw [← hs'.2.2]
        exact last_congr hh
      have hh' : ∀ i, i ∈ h ++ open_ s k' ↔ i ∈ cov s ((k', c) :: l) := fun i => by
        have z : cov s ((k', c) :: l) = open_ s k' ++ cov s l := rfl
        rw [z, List.mem_append, List.mem_append, hh i]
        exact Or.comm
      obtain ⟨h', a, b⟩ := goBack_of r (h ++ open_ s k') ((k', c) :: l) q' hh' e1 hs'.1
      refine ⟨h', ?_, fun i => by rw [b i]; simp⟩
      unfold goBack
      rw [hl]
      simpa using a
theorem miss_covers {s : St} {h : List Nat} {p : Row} (hh : ∀ i, i ∈ h ↔ i ∈ cov s p) : miss s h = false ↔ Covers s p := by
  unfold miss Covers Sy76.wrong
  rw [List.all_eq_true, List.any_eq_false]
  constructor
  · intro q i hi
    have hi' := List.mem_filter.mp hi
    rw [List.contains_iff_mem, ← hh i]
    by_cases c : i ∈ h
    · exact c
    · exact absurd hi'.2 (q i (List.mem_filter.mpr ⟨hi'.1, by simp [c]⟩))
  · intro q i hi hne
    have hi' := List.mem_filter.mp hi
    have z := q i (List.mem_filter.mpr ⟨hi'.1, hne⟩)
    rw [List.contains_iff_mem, ← hh i] at z
    simp [z] at hi'
theorem planBy_iff {s : St} {o : List Nat} {p : Row} (ho : ∀ k ∈ o, k < s.stencils.length) : planBy s o = some p ↔ p.map Prod.fst = o ∧ Seen s p [] ∧ Covers s p := by
  unfold planBy
  constructor
  · intro e
    split at e
    · cases e
    · rename_i h p' hg
      obtain ⟨a, q, e1, e2, e3⟩ := goBack_some o.reverse [] [] h p' (fun k hk => ho k (List.mem_reverse.mp hk)) (fun i => by simp [cov]) hg
      rw [List.append_nil] at e1
      subst e1
      split at e
      · cases e
      · rename_i hm
        cases e
        exact ⟨by rw [e2, List.reverse_reverse], e3, (miss_covers a).mp (by simpa using hm)⟩
  · rintro ⟨e, hs, hc⟩
    obtain ⟨h', a, b⟩ := goBack_of o.reverse [] [] p (fun i => by simp [cov]) (by rw [List.reverse_reverse]; exact e) hs
    rw [List.append_nil] at a b
    rw [a]
    have z := (miss_covers b).mpr hc
    simp [z]
theorem mem_orders : ∀ (m : Nat) (l o : List Nat), o ∈ ordersOf l m ↔ o.length = m ∧ o.Nodup ∧ ∀ k ∈ o, k ∈ l
  | 0, l, o => by
    unfold ordersOf
    rw [List.mem_singleton]
    constructor
    · rintro rfl; exact ⟨rfl, List.nodup_nil, by simp⟩
    · rintro ⟨h, _, _⟩; exact List.eq_nil_of_length_eq_zero h
  | m + 1, l, o => by
    unfold ordersOf
    rw [List.mem_flatMap]
    constructor
    · rintro ⟨f, hf, h⟩
      obtain ⟨o', ho', rfl⟩ := List.mem_map.mp h
      obtain ⟨h1, h2, h3⟩ := (mem_orders m _ _).mp ho'
      refine ⟨by simp [h1], List.nodup_cons.mpr ⟨fun hm => ?_, h2⟩, fun k hk => ?_⟩
      · have z := (List.mem_filter.mp (h3 f hm)).2
        simp at z
      · rcases List.mem_cons.mp hk with e | hk
        · rw [e]; exact hf
        · exact (List.mem_filter.mp (h3 k hk)).1
    · rintro ⟨h1, h2, h3⟩
      cases o with
      | nil => simp at h1
      | cons f o' =>
        have ⟨n1, n2⟩ := List.nodup_cons.mp h2
        refine ⟨f, h3 f List.mem_cons_self, List.mem_map.mpr ⟨o', (mem_orders m _ _).mpr ⟨by simpa using h1, n2, fun k hk => ?_⟩, rfl⟩⟩
        refine List.mem_filter.mpr ⟨h3 k (List.mem_cons_of_mem _ hk), ?_⟩
        have : k ≠ f := fun e => n1 (by rw [← e]; exact hk)
        simp [this]
theorem mem_raw {s : St} {l : List Nat} {m : Nat} {p : Row} (hl : ∀ k ∈ l, k < s.stencils.length) : p ∈ plansRaw s l m ↔ p ∈ Sy76.all_ s ∧ p.length = m ∧ ∀ k ∈ p.map Prod.fst, k ∈ l := by
  unfold plansRaw
  rw [List.mem_filterMap]
  constructor
  · rintro ⟨o, ho, e⟩
    obtain ⟨h1, h2, h3⟩ := (mem_orders _ _ _).mp ho
    obtain ⟨a, b, c⟩ := (planBy_iff fun k hk => hl k (h3 k hk)).mp e
    refine ⟨mem_all.mpr ⟨b, c⟩, ?_, ?_⟩
    · rw [← h1, ← a, List.length_map]
    · rw [a]; exact h3
  · rintro ⟨h1, h2, h3⟩
    obtain ⟨a, b⟩ := mem_all.mp h1
    exact ⟨p.map Prod.fst, (mem_orders _ _ _).mpr ⟨by rw [List.length_map, h2], seen_nodup a, h3⟩, (planBy_iff fun k hk => seen_lt a k hk).mpr ⟨rfl, a, b⟩⟩
theorem mem_with {s : St} {l : List Nat} {m : Nat} {p : Row} (hl : ∀ k ∈ l, k < s.stencils.length) : p ∈ plansWith s l m ↔ p ∈ Sy76.all_ s ∧ p.length = m ∧ ∀ k ∈ p.map Prod.fst, k ∈ l := by
  unfold plansWith
  rw [mem_srt, mem_raw hl]
theorem firstOf_range (s : St) (l : List Nat) (n : Nat) : ∀ (k a : Nat), a + k = n → (∀ m, m < a → plansWith s l m = []) → 
    (firstOf s l (List.range' a k) = [] ∧ ∀ m, m < n → plansWith s l m = []) ∨ ∃ m, m < n ∧ plansWith s l m ≠ [] ∧ (∀ j, j < m → plansWith s l j = []) ∧ firstOf s l (List.range' a k) = plansWith s l m
  | 0, a, e, h => .inl ⟨rfl, fun m hm => h m (by omega)⟩
  | k + 1, a, e, h => by
    rw [List.range'_succ]
    unfold firstOf
    split
    · rename_i hz
      exact firstOf_range s l n k (a + 1) (by omega) fun m hm => by
        by_cases c : m = a
        · rw [c]; exact hz
        · exact h m (by omega)
    · rename_i hz
      exact .inr ⟨a, by omega, hz, h, rfl⟩
theorem plansBy_cases (s : St) (l : List Nat) : (plansBy s l = [] ∧ ∀ m, m < l.length + 1 → plansWith s l m = []) ∨ ∃ m, m < l.length + 1 ∧ plansWith s l m ≠ [] ∧ (∀ j, j < m → plansWith s l j = []) ∧ plansBy s l = plansWith s l m := by
  unfold plansBy
  rw [List.range_eq_range']
  exact firstOf_range s l (l.length + 1) (l.length + 1) 0 (by omega) fun m hm => absurd hm (Nat.not_lt_zero _)
/-- none through these: no row of all is through these -/
theorem plansBy_nil {s : St} {l : List Nat} (hl : ∀ k ∈ l, k < s.stencils.length) : plansBy s l = [] ↔ ∀ p ∈ Sy76.all_ s, ¬ ∀ k ∈ p.map Prod.fst, k ∈ l := by
  constructor
  · intro e p hp hk
    have hlen : p.length ≤ l.length := by
      have := nodup_len _ l (seen_nodup (mem_all.mp hp).1) hk
      simpa using this
    rcases plansBy_cases s l with ⟨_, h⟩ | ⟨m, _, h1, _, h2⟩
    · have z := h p.length (by omega)
      have hm := (mem_with hl).mpr ⟨hp, rfl, hk⟩
      rw [z] at hm
      simp at hm
    · exact h1 (h2.symm.trans e)
  · intro h
    rcases plansBy_cases s l with ⟨e, _⟩ | ⟨m, _, h1, _, h2⟩
    · exact e
    · obtain ⟨p, hp⟩ := List.exists_mem_of_ne_nil _ h1
      have hp' := (mem_with hl).mp hp
      exact absurd hp'.2.2 (h p hp'.1)

/-! ### the specification's own -/
theorem few_go : ∀ (l : List Row) (o : Option Nat), 
    let r := l.foldl (fun (m : Option Nat) (l : Row) => match m with | none => some l.length | some n => some (min n l.length)) o
    (r = none ↔ l = [] ∧ o = none) ∧ ∀ n, r = some n → (o = some n ∨ ∃ p ∈ l, p.length = n) ∧ (∀ m, o = some m → n ≤ m) ∧ ∀ p ∈ l, n ≤ p.length
  | [], o => ⟨by simp, fun n h => ⟨.inl h, fun m hm => by
      have : some n = some m := h.symm.trans hm
      cases this; exact Nat.le_refl _, fun _ h => absurd h (by simp)⟩⟩
  | x :: l, o => by
    dsimp only
    rw [List.foldl_cons]
    cases o with
    | none =>
      have ih := few_go l (some x.length)
      dsimp only at ih ⊢
      refine ⟨by simp [ih.1], fun n h => ?_⟩
      obtain ⟨a, b, c⟩ := ih.2 n h
      refine ⟨.inr ?_, by simp, fun p hp => ?_⟩
      · rcases a with a | ⟨p, hp, e⟩
        · cases a; exact ⟨x, List.mem_cons_self, rfl⟩
        · exact ⟨p, List.mem_cons_of_mem _ hp, e⟩
      · rcases List.mem_cons.mp hp with e | hp
        · rw [e]; exact b _ rfl
        · exact c p hp
    | some k =>
      have ih := few_go l (some (min k x.length))
      dsimp only at ih ⊢
      refine ⟨by simp [ih.1], fun n h => ?_⟩
      obtain ⟨a, b, c⟩ := ih.2 n h
      have b' := b _ rfl
      refine ⟨?_, fun m hm => by cases hm; omega, fun p hp => ?_⟩
      · rcases a with a | ⟨p, hp, e⟩
        · injection a with a
          by_cases q : k ≤ x.length
          · exact .inl (by rw [← a]; simp; omega)
          · exact .inr ⟨x, List.mem_cons_self, by omega⟩
        · exact .inr ⟨p, List.mem_cons_of_mem _ hp, e⟩
      · rcases List.mem_cons.mp hp with e | hp
        · rw [e]; omega
        · exact c p hp
theorem fewest_none {s : St} : Sy76.fewest s = none ↔ Sy76.all_ s = [] := by
  have h := (few_go (Sy76.all_ s) none).1
  exact h.trans (by simp)
theorem fewest_some {s : St} {n : Nat} (e : Sy76.fewest s = some n) : (∃ p ∈ Sy76.all_ s, p.length = n) ∧ ∀ p ∈ Sy76.all_ s, n ≤ p.length := by
  obtain ⟨a, _, c⟩ := (few_go (Sy76.all_ s) none).2 n e
  refine ⟨?_, c⟩
  rcases a with a | a
  · cases a
  · exact a
theorem range_all {s : St} {p : Row} (hp : p ∈ Sy76.all_ s) : ∀ k ∈ p.map Prod.fst, k ∈ List.range s.stencils.length := fun k hk => List.mem_range.mpr (seen_lt (mem_all.mp hp).1 k hk)
theorem mem_plans {s : St} {p : Row} : p ∈ Sy76.plans s ↔ p ∈ Sy76.all_ s ∧ Sy76.fewest s = some p.length := by
  have e : Sy76.plans s = srt ((Sy76.all_ s).filter fun (l : Row) => Sy76.fewest s == some l.length) := rfl
  rw [e, mem_srt, List.mem_filter, beq_iff_eq]
/-- THE PLANS -/
theorem plans_eq (s : St) : Sy76.plans s = plansOf s := by
  have hl : ∀ k ∈ List.range s.stencils.length, k < s.stencils.length := fun k hk => List.mem_range.mp hk
  have hss : SS (Sy76.plans s) := ss_srt _
  unfold plansOf
  rcases plansBy_cases s (List.range s.stencils.length) with ⟨e, h⟩ | ⟨m, hm, h1, h2, e⟩
  · rw [e]
    rw [List.eq_nil_iff_forall_not_mem]
    intro p hp
    have hp' := (mem_plans.mp hp).1
    exact (plansBy_nil hl).mp e p hp' (range_all hp')
  · rw [e]
    refine ss_uniq hss (ss_srt _) fun p => ?_
    rw [mem_plans, mem_with hl]
    obtain ⟨q, hq⟩ := List.exists_mem_of_ne_nil _ h1
    have hq' := (mem_with hl).mp hq
    have low : ∀ r ∈ Sy76.all_ s, m ≤ r.length := fun r hr => by
      by_cases c : r.length < m
      · have z := h2 _ c
        have hm := (mem_with hl).mpr ⟨hr, rfl, range_all hr⟩
        rw [z] at hm
        simp at hm
      · omega
    cases ef : Sy76.fewest s with
    | none => rw [fewest_none.mp ef] at hq'; simp at hq'
    | some n =>
      obtain ⟨⟨r, hr, er⟩, b⟩ := fewest_some ef
      have : n = m := by
        have b1 := b q hq'.1
        have b2 := low r hr
        omega
      subst this
      constructor
      · rintro ⟨a, e⟩
        injection e with e
        exact ⟨a, e.symm, range_all a⟩
      · rintro ⟨a, e, _⟩
        exact ⟨a, by rw [e]⟩
theorem fewest_eq (s : St) : Sy76.fewest s = (plansOf s).head?.map List.length := by
  rw [← plans_eq]
  cases ef : Sy76.fewest s with
  | none =>
    have : Sy76.plans s = [] := by
      rw [List.eq_nil_iff_forall_not_mem]
      intro p hp
      have hp' := (mem_plans.mp hp).1
      rw [fewest_none.mp ef] at hp'
      simp at hp'
    rw [this]; rfl
  | some n =>
    obtain ⟨⟨r, hr, er⟩, b⟩ := fewest_some ef
    have hm : r ∈ Sy76.plans s := mem_plans.mpr ⟨hr, by rw [ef, er]⟩
    cases ep : Sy76.plans s with
    | nil => rw [ep] at hm; simp at hm
    | cons p l =>
      have hp : p ∈ Sy76.plans s := by rw [ep]; exact List.mem_cons_self
      have z := (mem_plans.mp hp).2
      rw [ef] at z
      simpa using z
theorem all_nil (s : St) : (Sy76.all_ s).isEmpty = true ↔ plansOf s = [] := by
  have hl : ∀ k ∈ List.range s.stencils.length, k < s.stencils.length := fun k hk => List.mem_range.mp hk
  unfold plansOf
  rw [plansBy_nil hl, List.isEmpty_iff]
  constructor
  · intro e p hp
    rw [e] at hp
    simp at hp
  · intro h
    rw [List.eq_nil_iff_forall_not_mem]
    intro p hp
    exact h p hp (range_all hp)
theorem needed_eq (s : St) : neededOf s = (List.range s.stencils.length).filter fun (k : Nat) => (Sy76.all_ s).all fun (l : Row) => l.any fun (x : Nat × Nat) => x.1 == k := by
  unfold neededOf
  refine List.filter_congr fun k hk => ?_
  unfold isNeeded
  have hl : ∀ j ∈ (List.range s.stencils.length).filter (fun o => decide (o ≠ k)), j < s.stencils.length := fun j hj => List.mem_range.mp (List.mem_filter.mp hj).1
  rw [Bool.eq_iff_iff, decide_eq_true_iff, plansBy_nil hl, List.all_eq_true]
  constructor
  · intro h p hp
    rw [List.any_eq_true]
    refine Classical.byContradiction fun hn => h p hp fun j hj => ?_
    obtain ⟨x, hx, e⟩ := List.mem_map.mp hj
    refine List.mem_filter.mpr ⟨range_all hp j hj, ?_⟩
    have : j ≠ k := fun z => hn ⟨x, hx, by rw [e, z]; simp⟩
    simp [this]
  · intro h p hp hall
    obtain ⟨x, hx, e⟩ := List.any_eq_true.mp (h p hp)
    have ek : x.1 = k := by simpa using e
    have z := (List.mem_filter.mp (hall x.1 (List.mem_map.mpr ⟨x, hx, rfl⟩))).2
    simp [ek] at z

/-! ### no plan is found twice; the sorted ones are these -/
theorem nodup_orders : ∀ (m : Nat) (l : List Nat), l.Nodup → (ordersOf l m).Nodup
  | 0, l, _ => by
    unfold ordersOf
    exact List.nodup_cons.mpr ⟨by simp, List.nodup_nil⟩
  | m + 1, l, h => by
    unfold ordersOf
    rw [List.nodup_iff_pairwise_ne, List.pairwise_flatMap]
    refine ⟨fun f hf => ?_, ?_⟩
    · rw [List.pairwise_map]
      have ih : (ordersOf (l.filter fun k => decide (k ≠ f)) m).Nodup := nodup_orders m _ (h.filter _)
      exact ih.imp fun {a b} hab e => hab (by injection e)
    · refine h.imp fun {f g} hfg x hx y hy e => ?_
      obtain ⟨a, _, rfl⟩ := List.mem_map.mp hx
      obtain ⟨b, _, rfl⟩ := List.mem_map.mp hy
      exact hfg (by injection e)
theorem nodup_raw {s : St} {l : List Nat} {m : Nat} (hd : l.Nodup) (hl : ∀ k ∈ l, k < s.stencils.length) : (plansRaw s l m).Nodup := by
  unfold plansRaw
  rw [List.nodup_iff_pairwise_ne, List.pairwise_filterMap]
  have h := nodup_orders m l hd
  have h' : List.Pairwise (fun a b => a ∈ ordersOf l m ∧ b ∈ ordersOf l m ∧ a ≠ b) (ordersOf l m) := by
    refine (List.pairwise_iff_forall_sublist.mpr fun {a b} hs => ?_)
    have h2 := List.pairwise_iff_forall_sublist.mp (List.nodup_iff_pairwise_ne.mp h) hs
    exact ⟨hs.subset (by simp), hs.subset (by simp), h2⟩
  refine h'.imp fun {a b} hab p hp q hq e => ?_
  subst e
  have ha := (mem_orders _ _ _).mp hab.1
  have hb := (mem_orders _ _ _).mp hab.2.1
  have e1 := ((planBy_iff fun k hk => hl k (ha.2.2 k hk)).mp hp).1
  have e2 := ((planBy_iff fun k hk => hl k (hb.2.2 k hk)).mp hq).1
  exact hab.2.2 (e1.symm.trans e2)
/-- a sorted arrangement of rows that are not twice there is srt -/
theorem srt_of {l m : List Row} (hp : m.Perm l) (hd : l.Nodup) (hs : m.Pairwise fun a b => before b a = false) : m = srt l := by
  refine ss_uniq ?_ (ss_srt l) fun x => by rw [mem_srt]; exact hp.mem_iff
  have hd' : m.Nodup := hp.nodup_iff.mpr hd
  have h2 : m.Pairwise fun a b => before b a = false ∧ a ≠ b := by
    have := List.pairwise_and_iff.mpr ⟨hs, List.nodup_iff_pairwise_ne.mp hd'⟩
    exact this
  exact h2.imp fun {a b} h => before_tot _ _ h.1 (Ne.symm h.2)
end SW

/-! Rules of my own over the layer: sorted of rows of pairs, set of a list of ints, a comprehension over a range with a step, a statement where nothing leaves. -/
namespace SW
open PySem PySem.Spec PyProof.Rows L2
open Sy76 (before put)

/-! ### the order of rows -/
def encP (x : Nat × Nat) : PyData := .tuple [.int (x.1 : Int), .int (x.2 : Int)]
def encRow (p : Row) : PyData := .list (p.map encP)
theorem alike_pairs : ∀ p q : Row, PySem.W.alikeAll (p.map encP) (q.map encP) = true
  | [], _ => by simp [PySem.W.alikeAll]
  | _ :: _, [] => by simp [PySem.W.alikeAll]
  | x :: p, y :: q => by
    rw [List.map_cons, List.map_cons, PySem.W.alikeAll, alike_pairs p q]
    simp [encP, PySem.W.alike, PySem.W.alikeAll]
theorem alike_rows (p q : Row) : PySem.W.alike (encRow p) (encRow q) = true := by
  unfold encRow
  rw [PySem.W.alike]
  exact alike_pairs p q
theorem depth_row : ∀ p : Row, PyData.depthAll (p.map encP) ≤ 1
  | [] => by simp [PyData.depthAll]
  | x :: p => by
    rw [List.map_cons, PyData.depthAll]
    have h : (encP x).depth = 1 := by simp [encP, PyData.depth, PyData.depthAll]
    have := depth_row p
    omega
theorem eqv_pair (x y : Nat × Nat) : PyData.eqv (encP x) (encP y) = (x == y) := by
  obtain ⟨a, b⟩ := x
  obtain ⟨c, d⟩ := y
  rw [Bool.eq_iff_iff]
  simp [encP, PyData.eqv, PyData.eqvAll]
  omega
theorem lt_rows : ∀ p q : Row, PySem.W.rowLt (p.map encP) (q.map encP) = before p q
  | [], [] => lex_irrefl _
  | [], y :: q => by
    show PySem.W.rowLt [] (encP y :: q.map encP) = true
    unfold PySem.W.rowLt
    rw [PySem.W.toks_all_cons]
    simp only [PySem.W.keyToksAll]
    rw [lex_diff (O := itemOrd) (by simp)]
    rfl
  | x :: p, [] => by
    show PySem.W.rowLt (encP x :: p.map encP) [] = false
    unfold PySem.W.rowLt
    rw [PySem.W.toks_all_cons]
    simp only [PySem.W.keyToksAll]
    rw [lex_diff (O := itemOrd) (by simp)]
    rfl
  | (a, b) :: p, (c, d) :: q => by
    have ih := lt_rows p q
    show PySem.W.rowLt (encP (a, b) :: p.map encP) (encP (c, d) :: q.map encP) = _
    unfold PySem.W.rowLt at ih ⊢
    rw [PySem.W.dataLt_cons (by simp [encP, PySem.W.alike, PySem.W.alikeAll]), ih, eqv_pair]
    have e : PySem.W.dataLt (encP (a, b)) (encP (c, d)) = decide (a < c ∨ (a = c ∧ b < d)) := by
      unfold encP
      rw [PySem.W.dataLt_ii]
      exact decide_eq_decide.mpr (by dsimp only; omega)
    rw [e, Bool.eq_iff_iff]
    show _ ↔ (decide (a < c) || (a == c && decide (b < d)) || ((a, b) == (c, d) && before p q)) = true
    by_cases h : (a, b) = (c, d)
    · rw [if_pos (by simpa using h)]
      have h' := h
      injection h' with h1 h2
      subst h1; subst h2
      simp
    · rw [if_neg (by simpa using h)]
      have h3 : ((a, b) == (c, d)) = false := by simpa using h
      rw [h3]
      simp
theorem le_rows : PySem.W.dataLe false encRow = fun a b => !before b a := by
  rw [PySem.W.dataLe_eq]
  funext a b
  show (!PySem.W.dataLt (encRow b) (encRow a)) = _
  have e : PySem.W.dataLt (encRow b) (encRow a) = PySem.W.rowLt (b.map encP) (a.map encP) := PySem.W.dataLt_list _ _
  rw [e, lt_rows]
theorem sorted_rows {l : List Row} (hd : l.Nodup) : l.mergeSort (PySem.W.dataLe false encRow) = srt l := by
  rw [le_rows]
  refine srt_of (List.mergeSort_perm _ _) hd ?_
  have h := List.pairwise_mergeSort (le := fun a b : Row => !before b a) (fun a b c h1 h2 => ?_) (fun a b => ?_) l
  · exact h.imp fun {a b} z => by simpa using z
  · simp only [Bool.not_eq_true'] at h1 h2 ⊢
    cases e : before c a with
    | false => rfl
    | true =>
      by_cases hb : c = b
      · subst hb; rw [h1] at e; cases e
      · have z := before_tot c b h2 hb
        have := before_tr _ _ _ z e
        rw [h1] at this; cases this
  · cases e : before b a with
    | false => rfl
    | true =>
      cases e2 : before a b with
      | false => simp
      | true =>
        have := before_tr _ _ _ e e2
        rw [before_irr] at this; cases this

/-! ### plans in the heap -/
def PairAt (H : Hp) (t : Addr) (x : Nat × Nat) : Prop := H t = some (.tup [.int (x.1 : Int), .int (x.2 : Int)])
def PlanAt (H : Hp) (a : Addr) (p : Row) : Prop := ∃ ts : List Addr, H a = some (.lst (ts.map V.ref)) ∧ Paired (PairAt H) ts p
def PlansAt (H : Hp) (a : Addr) (ps : List Row) : Prop := ∃ as : List Addr, H a = some (.lst (as.map V.ref)) ∧ Paired (PlanAt H) as ps
theorem paired_imp {α β : Type} {F G : α → β → Prop} (h : ∀ a b, F a b → G a b) : ∀ {l : List α} {m : List β}, Paired F l m → Paired G l m
  | _, _, .nil => .nil
  | _, _, .cons r t => .cons (h _ _ r) (paired_imp h t)
theorem PairAt.same {H H' : Hp} {t : Addr} {x : Nat × Nat} (e : Same H H') (h : PairAt H t x) : PairAt H' t x := e _ _ h
theorem PlanAt.same {H H' : Hp} {a : Addr} {p : Row} (e : Same H H') (h : PlanAt H a p) : PlanAt H' a p := by
  obtain ⟨ts, h1, h2⟩ := h
  exact ⟨ts, e _ _ h1, paired_imp (fun _ _ => PairAt.same e) h2⟩
theorem PlansAt.same {H H' : Hp} {a : Addr} {ps : List Row} (e : Same H H') (h : PlansAt H a ps) : PlansAt H' a ps := by
  obtain ⟨as, h1, h2⟩ := h
  exact ⟨as, e _ _ h1, paired_imp (fun _ _ => PlanAt.same e) h2⟩
theorem paired_get {α β : Type} {F : α → β → Prop} : ∀ {l : List α} {m : List β} {i : Nat} {b : β}, Paired F l m → m[i]? = some b → ∃ a, l[i]? = some a ∧ F a b
  | _, _, _, _, .nil, e => by simp at e
  | _, _, 0, b, .cons r _, e => by
    have e' : _ = b := Option.some.inj e
    subst e'
    exact ⟨_, rfl, r⟩
  | _, _, i + 1, b, .cons _ t, e => paired_get (i := i) t e
theorem paired_get' {α β : Type} {F : α → β → Prop} : ∀ {l : List α} {m : List β} {i : Nat} {a : α}, Paired F l m → l[i]? = some a → ∃ b, m[i]? = some b ∧ F a b
  | _, _, _, _, .nil, e => by simp at e
  | _, _, 0, b, .cons r _, e => by
    have e' : _ = b := Option.some.inj e
    subst e'
    exact ⟨_, rfl, r⟩
  | _, _, i + 1, b, .cons _ t, e => paired_get' (i := i) t e
theorem paired_len {α β : Type} {F : α → β → Prop} : ∀ {l : List α} {m : List β}, Paired F l m → l.length = m.length
  | _, _, .nil => rfl
  | _, _, .cons _ t => by rw [List.length_cons, List.length_cons, paired_len t]
theorem paired_snoc {α β : Type} {F : α → β → Prop} {a : α} {b : β} : ∀ {l : List α} {m : List β}, Paired F l m → F a b → Paired F (l ++ [a]) (m ++ [b])
  | _, _, .nil, h => .cons h .nil
  | _, _, .cons r t, h => .cons r (paired_snoc t h)
theorem paired_app {α β : Type} {F : α → β → Prop} : ∀ {l l' : List α} {m m' : List β}, Paired F l m → Paired F l' m' → Paired F (l ++ l') (m ++ m')
  | _, _, _, _, .nil, h => h
  | _, _, _, _, .cons r t, h => .cons r (paired_app t h)

/-! ### sorted of rows -/
section
variable {X : Cx}
theorem refs_of : ∀ {ts : List Addr} {us : List Value}, Vals (ts.map V.ref) us → us = ts.map Value.ref
  | [], _, r => by
    rw [List.map_nil] at r
    cases r
    rfl
  | t :: ts, _, r => by
    rw [List.map_cons] at r
    cases r with
    | cons r1 r2 =>
      cases r1
      rw [refs_of r2]
      rfl
theorem of_refs : ∀ ts : List Addr, Vals (ts.map V.ref) (ts.map Value.ref)
  | [] => .nil
  | _ :: ts => .cons rfl (of_refs ts)
theorem reads_pair {pins : List (Addr × Obj)} {σ : L2.St} {H : Hp} {s : Shared} {t : Addr} {x : Nat × Nat} (I : Inv X pins σ H s) (h : PairAt H t x) : ∃ as, Reads s.heap (.ref t) (encP x) as := by
  obtain ⟨_, its, r, o, ho, hc, n, hd⟩ := I.hok _ _ h
  cases r with
  | cons r1 r2 =>
    cases r2 with
    | cons r3 r4 =>
      cases r4
      obtain ⟨t1, rfl⟩ := r1
      obtain ⟨t2, rfl⟩ := r3
      exact ⟨_, Reads.tuple ho hc hd (ReadsAll.cons (Reads.int _ _) (ReadsAll.cons (Reads.int _ _) ReadsAll.nil))⟩
theorem reads_pairs {pins : List (Addr × Obj)} {σ : L2.St} {H : Hp} {s : Shared} (I : Inv X pins σ H s) : ∀ {ts : List Addr} {p : Row}, Paired (PairAt H) ts p → ∃ as, ReadsAll s.heap (ts.map Value.ref) (p.map encP) as
  | _, _, .nil => ⟨_, ReadsAll.nil⟩
  | _, _, .cons r t => by
    obtain ⟨a1, h1⟩ := reads_pair I r
    obtain ⟨a2, h2⟩ := reads_pairs I t
    exact ⟨_, ReadsAll.cons h1 h2⟩
theorem reads_plan {pins : List (Addr × Obj)} {σ : L2.St} {H : Hp} {s : Shared} {a : Addr} {p : Row} (I : Inv X pins σ H s) (h : PlanAt H a p) : ∃ as, Reads s.heap (.ref a) (encRow p) as := by
  obtain ⟨ts, h1, h2⟩ := h
  obtain ⟨_, its, n, r, e⟩ := I.hok _ _ h1
  have e2 := refs_of r
  subst e2
  obtain ⟨as, h3⟩ := reads_pairs I h2
  exact ⟨_, Reads.list e rfl rfl h3⟩
theorem each_plan {pins : List (Addr × Obj)} {σ : L2.St} {H : Hp} {s : Shared} (I : Inv X pins σ H s) : ∀ {as : List Addr} {ps : List Row}, Paired (PlanAt H) as ps →
    PySem.W.EachIs (fun v p => ∃ a, v = Value.ref a ∧ PlanAt H a p) (as.map Value.ref) ps ∧ PySem.W.EachIs (fun v p => ∃ bs, Reads s.heap v (encRow p) bs) (as.map Value.ref) ps
  | _, _, .nil => ⟨.nil, .nil⟩
  | _, _, .cons r t => by
    obtain ⟨h1, h2⟩ := each_plan I t
    exact ⟨.cons ⟨_, rfl, r⟩ h1, .cons (reads_plan I r) h2⟩
theorem back_each {H : Hp} : ∀ {us : List Value} {ps : List Row}, PySem.W.EachIs (fun v p => ∃ a, v = Value.ref a ∧ PlanAt H a p) us ps → ∃ as : List Addr, us = as.map Value.ref ∧ Paired (PlanAt H) as ps
  | _, _, .nil => ⟨[], rfl, .nil⟩
  | _, _, .cons ⟨a, e, h⟩ t => by
    obtain ⟨as, e2, h2⟩ := back_each t
    subst e; subst e2
    exact ⟨a :: as, rfl, .cons h h2⟩
/-- sorted(xs), xs rows of pairs of whole numbers of which none is there twice -/
def rSortedRows : List V → Hp → VK → Prop := fun vs H Q => ∃ (a : Addr) (as : List Addr) (ps : List Row), vs = [V.ref a] ∧ H a = some (.lst (as.map V.ref)) ∧ Paired (PlanAt H) as ps ∧ ps.Nodup ∧
  ∀ (bs : List Addr) (p : Addr), H p = none → Paired (PlanAt H) bs (srt ps) → Q (.ref p) (upd H p (.lst (bs.map V.ref)))
theorem cr_sortedRows (hu : X.A.units + 64 < cLine) : CallR X (.builtin "sorted") rSortedRows := by
  intro pins s σ H vs us Q I r h
  obtain ⟨a, as, ps, rfl, ha, hp, hd, q⟩ := h
  obtain ⟨its, rv, hl, hz⟩ := I.list (SqL.of ha)
  obtain ⟨u, rfl, ru⟩ := vals1 r
  obtain rfl : u = Value.ref a := ru
  have e2 := refs_of rv
  subst e2
  obtain ⟨h1, h2⟩ := each_plan I hp
  have hlen : ps.length ≤ sizeLine := by
    have := paired_len hp
    rw [List.length_map] at hz
    omega
  refine PySem.W.sorted_data hl.isList h1 h2 (PySem.W.AllAlike.of fun p q => alike_rows p q) (PySem.W.Sortable.others fun p => ⟨(fun z => by cases z), (fun xs z => by cases z)⟩) hlen (fun p _ => ?_) fun out ho eo => ?_
  · have h3 := depth_row p
    have h4 : (encRow p).depth = PyData.depthAll (p.map encP) + 1 := by unfold encRow; rw [PyData.depth]
    omega
  · rw [sorted_rows hd] at eo
    obtain ⟨bs, rfl, hb⟩ := back_each eo
    obtain ⟨c, hc⟩ := sortedAll_at s.heap (as.map Value.ref) (List.toArray (bs.map Value.ref))
    have hle : s.heap.objs.size ≤ s.heap.objs.size + 1 := Nat.le_succ _
    refine ⟨.ref (s.heap.objs.size + 1), upd H (s.heap.objs.size + 1) (.lst (bs.map V.ref)), I.laid (t' := s.toks) (fun b o e => sortedAll_old e) hle ⟨?_, bs.map Value.ref, c, of_refs bs, hc⟩, rfl, q bs _ (I.hok.fresh hle) hb⟩
    rw [List.length_map] at ho ⊢
    rw [ho]
    exact hlen
end

/-! ### a comprehension over a range with a step -/
theorem lc_rangeC {lo c : Int} {n : Nat} {g : TG} {tt : TT} {te : TE} {vs : List Nat} {σ : L2.St} {H1 : Hp} {D : Addr} {Qd : Hp → Prop} (Pv : Nat → Hp → Prop) (h0 : Pv 0 (upd H1 D (.lst [])))
    (hs : ∀ i H, i < n → Pv i H → g (.int (lo + (i : Nat) * c)) (wipe σ vs) H fun σ2 H2 => wipe σ2 vs = wipe σ vs ∧ tt σ2 H2 fun b H3 =>
      if b = true then te σ2 H3 fun y H4 => ∃ acc, H4 D = some (.lst acc) ∧ acc.length < sizeLine ∧ Pv (i + 1) (upd H4 D (.lst (acc ++ [y]))) else Pv (i + 1) H3) (hd : ∀ H, Pv n H → Qd H) :
    ∃ W : Nat → Nat → Hp → Prop, (∃ m, W 0 m (upd H1 D (.lst []))) ∧ ∀ i m H, W i m H →
      ((Itc lo c n).stop i H ∧ Qd H) ∨ ((Itc lo c n).go i H ∧ ∃ Nx : Hp → Prop, (∀ H', Nx H' → ∃ m', m' < m ∧ W (i + 1) m' H') ∧ ∀ x H', (Itc lo c n).yld i H x H' → g x (wipe σ vs) H' fun σ2 H2 => wipe σ2 vs = wipe σ vs ∧ tt σ2 H2 fun b H3 =>
        if b = true then te σ2 H3 fun y H4 => ∃ acc, H4 D = some (.lst acc) ∧ acc.length < sizeLine ∧ Nx (upd H4 D (.lst (acc ++ [y]))) else Nx H3) := by
  refine ⟨fun i m H => m + i = n ∧ Pv i H, ⟨n, rfl, h0⟩, fun i m H w => ?_⟩
  obtain ⟨e, p⟩ := w
  rcases Nat.lt_or_ge i n with hlt | hge
  · refine .inr ⟨hlt, Pv (i + 1), fun H' p' => ⟨m - 1, by omega, by omega, p'⟩, fun x H' y => ?_⟩
    obtain ⟨rfl, rfl⟩ := y
    exact hs i H' hlt p
  · obtain rfl : i = n := by omega
    exact .inl ⟨Nat.le_refl _, hd H p⟩

/-! ### a statement that lets nothing out -/
theorem ps_nox {X : Cx} {st : Stmt} {t : TS} (h : PS X.nox st t) : PS X st t := ⟨fun pins s σ H D I hw =>
  wpAny_mono (h.run pins s σ H D (I.wish _) hw) (fun _ _ q => SP.unwish q) fun _ _ z => z.elim⟩
end SW

/-! set(xs), xs a list of whole numbers (HandS.SetFor has it of a tuple; the walk is the same but for what is iterated). -/
namespace L2
open PySem PySem.Spec PyProof.Rows
section
variable {P : Program} {w : World} {A : Around} {E : Value → Shared → Prop} {s : Shared}
abbrev noneYet (w : World) : Obj := { cls := .type "set", dict := none, data := .set #[] 0 (.fresh 0 0 (!w.params.followText "set-order")) }
set_option maxHeartbeats 3200000 in
theorem set_of_ints {l : Addr} {xs : Array Value} (ns : List Int) {Q : Value → Shared → Prop} (hA : A.handled = none) (hxs : s.heap.IsList l xs) (hns : IntsAre xs.toList ns) (hroom : ns.length + 1 < scanBound)
    (goal : ∀ (h' : Heap) (tk c : Nat), SetR w h' s.heap.objs.size (fun j => decide (j ∈ ns)) c → c ≤ ns.length → (∀ b o, s.heap.get? b = some o → h'.get? b = some o) → Q (.ref s.heap.objs.size) { s with heap := h', toks := tk }) :
    wpAny (model P w) A (call (.type "set") [.ref l]) Q E s := by
  have size_ns : xs.size = ns.length := by have z := IntsAre.length hns; rwa [Array.length_toList] at z
  obtain ⟨c, tl, hmro⟩ := F.called_set.mro
  have hmade := F.called_set.made
  have hsub := F.called_set.sub
  refine wpAny_call (codeAny_of_tree ?_)
  show wpAny _ _ (callAny (.type "set") _) _ _ _
  refine wpAny_pure ⟨Code.quiet_builtin _ (by decide +kernel), codeAny_builtin F.entry_type_call ?_⟩
  rw [Around.under_plain (weight_type_call_type "set" [.ref l] []) rfl]
  have h1 := F.called_set.notType
  have h2 := F.called_set.canCreate
  have hct := F.typeCall_set_1 (.ref l)
  repeat (any_goals (first | assumption | wp_step))
  refine codeAny_mono (code_set_led1 (.ref l) (E := E) (Q₁ := fun obj s₁ => obj = .ref s.heap.objs.size ∧ s₁ = { s with heap := s.heap.push (noneYet w) }) ⟨rfl, rfl⟩) fun r s₁ hr => ?_
  match r, hr with
  | .error e, hr => exact hr
  | .ok (.ret obj), ⟨e1, e2⟩ =>
    subst e1; subst e2
    have atS : (s.heap.push (noneYet w)).get? s.heap.objs.size = some (noneYet w) := Heap.get?_push_size _ rfl
    have hT : Shared.TypeIs { s with heap := s.heap.push (noneYet w) } (.ref s.heap.objs.size) "set" := ⟨_, atS, rfl⟩
    have hli := F.called_set.init.lookup
    have hbi := F.called_set.init.bind (.ref s.heap.objs.size)
    repeat (any_goals (first | assumption | wp_step))
    refine codeAny_mono (codeAny_call_builtin (R := wants (fun r s₂ => r = .none ∧ ∃ h' tk c, s₂ = { s with heap := h', toks := tk } ∧ SetR w h' s.heap.objs.size (fun j => decide (j ∈ ns)) c ∧ c ≤ ns.length ∧
        (∀ b o, s.heap.get? b = some o → h'.get? b = some o)) E) F.called_set.init.plain F.entry_set_init (check_set_init_1 hT ?_)) fun r₂ s₂ hr₂ => ?_
    · obtain ⟨ol, hol, hcl, nl, hdl⟩ := hxs
      obtain ⟨ocls, odict, odata, oslots⟩ := ol
      dsimp only at hcl hdl
      subst hcl; subst hdl
      have hol' : (s.heap.push (noneYet w)).get? l = some { cls := .type "list", dict := odict, data := .seq xs nl, slots := oslots } := Heap.get?_push_of_some _ hol
      have hsls := F.sub_list_set
      have hslf := F.sub_list_frozenset
      have hne : (Value.type "list" == Value.type "dict") = false := by decide
      have hl1 : (s.heap.push (noneYet w)).IsList l xs := ⟨_, hol', rfl, nl, rfl⟩
      unfold Builtin.«set.__init__» noKeywords Builtin.Frozenset.updateFrom
      generalize hPI : pyIter = PI
      wp_walk
      subst hPI
      refine wpAny_pyIter_list hl1 ?_
      refine wpAny_bind (wpAny_runValue ?_)
      have hlS : l < s.heap.objs.size := Heap.lt_size hol
      have hh3 : A.in1.in1.in1.handled = none := by simp [hA]
      have hsz : (s.heap.push (noneYet w)).objs.size = s.heap.objs.size + 1 := Heap.size_push ..
      have hneI : l ≠ (s.heap.push (noneYet w)).objs.size := by rw [hsz]; exact Nat.ne_of_lt (Nat.lt_succ_of_lt hlS)
      have notfp : s.heap.objs.size ∉ [(s.heap.push (noneYet w)).objs.size, l] := by
        rw [hsz]; simp only [List.mem_cons, List.mem_singleton, List.not_mem_nil, or_false, not_or]
        exact ⟨Nat.ne_of_lt (Nat.lt_succ_self _), Nat.ne_of_gt hlS⟩
      have each : ∀ (i : Nat) (v : Value), xs[i]? = some v → ∃ k t, ns[i]? = some k ∧ v = .int k t := fun i v hv => by
        have hi : i < ns.length := by rw [← size_ns]; exact (Array.getElem?_eq_some_iff.mp hv).1
        obtain ⟨t, e⟩ := PyProof.Rows.IntsAre.int_at hns i v (by rw [Array.getElem?_toList]; exact hv)
        exact ⟨ns[i], t, List.getElem?_eq_getElem hi, by rw [e, List.getD_eq_getElem?_getD, List.getElem?_eq_getElem hi] <;> rfl⟩
      refine set_update_ints ((Walks.list hh3 _ l hneI xs).toS) s.heap.objs.size notfp ns size_ns hroom each (xs.size - 0) 0 _ (by omega) (Nat.zero_le _) ⟨⟨_, Heap.get?_push_size _ rfl, rfl, rfl⟩, (hl1.push _)⟩ ⟨0, Nat.le_refl 0, setR_new_at (Heap.get?_push_of_some _ atS)⟩ ?_
      intro s' c' hm hc' hS'
      obtain ⟨h', g2, d', tk', os'⟩ := s'
      obtain rfl : g2 = s.gens := hm.gens
      obtain rfl : d' = s.drawn := hm.drawn
      obtain rfl : os' = s.os := hm.os
      show wpAny _ _ _ _ _ _
      refine wpAny_pure ?_
      show wpAny _ _ (ret Value.none) _ _ _
      rw [size_ns] at hc'
      refine wpAny_pure ⟨rfl, h', tk', c', rfl, hS', hc', fun b o e => ?_⟩
      have hb0 : b < s.heap.objs.size := Heap.lt_size e
      refine hm.heap b o ?_ (Heap.get?_push_of_some _ (Heap.get?_push_of_some _ e))
      rw [hsz]
      simp only [List.mem_cons, List.mem_singleton, List.not_mem_nil, or_false, not_or]
      exact ⟨Nat.ne_of_lt hb0, Nat.ne_of_lt (Nat.lt_succ_of_lt hb0)⟩
    · match r₂, hr₂ with
      | .error e, hr₂ => exact hr₂
      | .ok (.ret r), ⟨e1, h', tk, c2, e2, hS', hc', hk'⟩ =>
        subst e1; subst e2
        repeat (any_goals (first | assumption | wp_step))
        exact goal _ _ _ hS' hc' hk'
      | .ok .next, hr₂ => exact hr₂.elim
      | .ok .brk, hr₂ => exact hr₂.elim
      | .ok .cont, hr₂ => exact hr₂.elim
  | .ok .next, hr => exact hr.elim
  | .ok .brk, hr => exact hr.elim
  | .ok .cont, hr => exact hr.elim
end
section
variable {X : Cx}
/-- set(xs) -/
def rSetInts (K : PySem.W.Frag) (w : World) : List V → Hp → VK → Prop := fun vs H Q => ∃ (a : Addr) (ns : List Int), vs = [V.ref a] ∧ SqL K H a (ns.map V.int) ∧ ns.length + 1 < scanBound ∧
  ∀ (p : Addr) (c : Nat), H p = none → c ≤ ns.length → Q (.ref p) (upd H p (SetO w p (fun j => decide (j ∈ ns)) c))
theorem cr_setInts (hc : X.calm = true) : CallR X (.type "set") (rSetInts X.K X.w) := by
  intro pins s σ H vs us Q I r h
  obtain ⟨a, ns, rfl, hs, hb, q⟩ := h
  obtain ⟨its, rv, hl, hz⟩ := I.list hs
  rw [Vals.ref1 r]
  refine set_of_ints (s := s) (xs := its.toArray) ns (I.ok.hd hc) hl.isList (by simpa using intsAre_of rv) hb fun h' tk c R hc' k => ?_
  have hn : H s.heap.objs.size = none := I.hok.fresh (Nat.le_refl _)
  exact ⟨.ref _, upd H s.heap.objs.size (SetO X.w s.heap.objs.size (fun j => decide (j ∈ ns)) c), I.laid k (Nat.le_refl _) (setO_new R), rfl, q _ c hn hc'⟩
end
end L2

/-! The text by places, the heap's data, what a def is worth to its callers, comprehensions whose items are known ahead. -/
namespace SW
open PySem PySem.Spec PyProof.Rows L2

/-! ### the text -/
def top (i : Nat) : Stmt := PySem.Challenge.pw_stencilwall_s01_answers.main.body.getD i (.Pass ⟨0, 0, 0, 0⟩)
abbrev sSurfI : Stmt := inClass (top 3) 0
abbrev sSprayed : Stmt := top 4
abbrev sOtherwise : Stmt := top 5
abbrev sSeen : Stmt := top 7
abbrev sPlanBy : Stmt := top 8
abbrev sOrders : Stmt := top 9
abbrev sPlansWith : Stmt := top 10
abbrev sPlansBy : Stmt := top 11
abbrev sAllSt : Stmt := top 12
abbrev sPlansOf : Stmt := top 13
abbrev sIsNeeded : Stmt := top 14
abbrev sNeededOf : Stmt := top 15
abbrev sRefI : Stmt := inClass (top 21) 0
abbrev sNeed : Stmt := top 22
abbrev sWallI : Stmt := inClass (top 39) 0
abbrev sWithLen : Stmt := top 40
abbrev sManyWrong : Stmt := top 41
abbrev sBegins : Stmt := top 42
abbrev sStencilPut : Stmt := top 43
abbrev sPictureSet : Stmt := top 44
abbrev sIsColour : Stmt := top 45
abbrev sSprayDone : Stmt := top 46
abbrev sWashed : Stmt := top 47
abbrev sFewestTold : Stmt := top 48
abbrev sPlanTold : Stmt := top 49
abbrev sNeededTold : Stmt := top 50
abbrev sByTold : Stmt := top 51
abbrev sStateTold : Stmt := top 52
abbrev sAsked : Stmt := top 53
abbrev sAnswered : Stmt := top 54
abbrev sOutcome : Stmt := top 55
abbrev sAnswers : Stmt := top 56

/-! ### what the top has written: built-ins, constants, classes -/
structure Blt (mg : Str → Option Value) : Prop where
  len : mg "len" = none
  range : mg "range" = none
  any : mg "any" = none
  all : mg "all" = none
  sorted : mg "sorted" = none
  set : mg "set" = none
  list : mg "list" = none
/-- a number by its name -/
def Num (mg : Str → Option Value) (x : Str) (i : Int) : Prop := ∃ t, mg x = some (.int i t)
structure SurfC (K : PySem.W.Frag) (CS : Addr) : Prop where
  cl : Cls K CS
  nR : NoAttr K CS "many_rows"
  nC : NoAttr K CS "many_columns"
  nCe : NoAttr K CS "cells"
  nW : NoAttr K CS "wanted"
  nSt : NoAttr K CS "stencils"
  nSp : NoAttr K CS "sprays"
structure WallC (K : PySem.W.Frag) (CW : Addr) : Prop where
  cl : Cls K CW
  nS : NoAttr K CW "surface"
/-- what a def is worth to those that call it by its name -/
structure Fn (P : Program) (w : World) (K : PySem.W.Frag) (mg : Str → Option Value) (base : Heap) (CX : CXT) (k : Nat) (x : Str) (f : Addr) (fd : FuncData) (ps : List Str) (sp : Sp) : Prop where
  gm : mg x = some (.ref f)
  kp : PySem.W.keepIn K (.ref f) = true
  bi : Binds K fd ps []
  ok : FnOk P w K mg base CX k f fd ps sp
section
variable {X : Cx} {k : Nat} {f : Addr} {fd : FuncData} {ps : List Str} {sp : Sp} {x : Str} {p pos : Pos} {e : Expr} {es : List Expr} {t : TA}
/-- a call of a def that lets nothing out -/
theorem pe_fn (F : Fn X.prog X.w X.K X.mg X.base CX0 k x f fd ps sp) (hr : Room k X.A) (ha : PA X (e :: es) t) (hg : Gl X x := by rfl) (hdb : (x == ("__debug__" : Str)) = false := by decide)
    (he : starEach (e :: es) X.env = (false, eval e X.env) :: starEach es X.env := by rfl) (hpl : (backTo pos (starEach es X.env)).any (·.1) = false := by rfl) :
    PE X (.Call (.Name x p) (e :: es) [] pos) (tCall sp [] E0 t) := pe_call F.ok hr hg F.gm F.kp F.bi .nil pass0 ha hdb he hpl
/-- a call of a def that may raise, in a def that lets it through -/
theorem pe_fnX {E : XK} {W : WX} (F : Fn X.prog X.w X.K X.mg X.base (L2.CX X.prog X.w) k x f fd ps sp) (hr : Room k X.A) (tk : Takes X W) (hW : ∀ cls d σ H, E cls d H → W cls d σ H) (ha : PA X (e :: es) t) (hg : Gl X x := by rfl) (hdb : (x == ("__debug__" : Str)) = false := by decide)
    (he : starEach (e :: es) X.env = (false, eval e X.env) :: starEach es X.env := by rfl) (hpl : (backTo pos (starEach es X.env)).any (·.1) = false := by rfl) :
    PE X (.Call (.Name x p) (e :: es) [] pos) (tCall sp [] E t) := pe_call F.ok hr hg F.gm F.kp F.bi .nil (passes_call tk hW) ha hdb he hpl
/-- a number by its name -/
theorem pe_num {i : Int} (hm : Num X.mg x i) (hg : Gl X x := by rfl) (hd : (x == ("__debug__" : Str)) = false := by decide) : PE X (.Name x pos) (tC (.int i)) := by
  obtain ⟨t, h⟩ := hm
  exact pe_glob hg h ⟨t, rfl⟩ hd
end

/-! ### rules with the written part told (within a comprehension's block a reading may not hang on the block) -/
section
variable {X : Cx} {a b e : Expr} {ta tb te : TE} {p pos : Pos} {f : Str} {tg : Expr}
theorem pe_ixL (K : PySem.W.Frag) (ha : PE X a ta) (hb : PE X b tb) (hs : PlainIx b := by exact fun _ _ => rfl) (hK : X.K = K := by rfl) : PE X (.Subscript a b pos) (tOp (rIxL K) ta tb) := by
  subst hK
  exact pe_ix ix_list ha hb hs
theorem pe_ixT (K : PySem.W.Frag) (ha : PE X a ta) (hb : PE X b tb) (hs : PlainIx b := by exact fun _ _ => rfl) (hK : X.K = K := by rfl) : PE X (.Subscript a b pos) (tOp (rIxT K) ta tb) := by
  subst hK
  exact pe_ix ix_tup ha hb hs
def rLen (K : PySem.W.Frag) : List V → Hp → VK → Prop := fun xs H Q => ∃ p ys, xs = [.ref p] ∧ (SqL K H p ys ∨ SqT K H p ys) ∧ Q (.int ys.length) H
theorem pe_len (K : PySem.W.Frag) (B : Blt X.mg) (he : PE X e te) (hg : Gl X "len" := by rfl) (hK : X.K = K := by rfl) (hs : starEach [e] X.env = (false, eval e X.env) :: starEach [] X.env := by rfl) :
    PE X (.Call (.Name "len" p) [e] [] pos) (tCB (rLen K) (tCons te tNil)) := by
  subst hK
  exact pe_callB call_len_seq hg B.len PySem.boot_len (pa_cons he pa_nil hs) (by decide) (by decide) hs rfl
theorem pt_in (K : PySem.W.Frag) (ha : PE X a ta) (hb : PE X b tb) (hm : behindInMarks .In b = false := by rfl) (hK : X.K = K := by rfl) : PT X (.Compare a [.In] [b] pos) (tB (tOp (rIn K false) ta tb)) := by
  subst hK
  exact pt_cmpR op_in_seq ha hb hm
theorem pt_notIn (K : PySem.W.Frag) (ha : PE X a ta) (hb : PE X b tb) (hm : behindInMarks .NotIn b = false := by rfl) (hK : X.K = K := by rfl) : PT X (.Compare a [.NotIn] [b] pos) (tB (tOp (rIn K true) ta tb)) := by
  subst hK
  exact pt_cmpR op_notIn_seq ha hb hm
theorem pe_fldK (K : PySem.W.Frag) (he : PE X e te) (hb : attributeBase e f X.env (eval e X.env) = eval e X.env := by rfl) (hK : X.K = K := by rfl) : PE X (.Attribute e f pos) (tFld K te f) := by
  subst hK
  exact pe_fld he hb
theorem pe_any (K : PySem.W.Frag) (B : Blt X.mg) (hc : X.calm = true) (he : PE X e te) (hg : Gl X "any" := by rfl) (hK : X.K = K := by rfl) (hs : starEach [e] X.env = (false, eval e X.env) :: starEach [] X.env := by rfl) :
    PE X (.Call (.Name "any" p) [e] [] pos) (tCB (rAny K) (tCons te tNil)) := by
  subst hK
  exact pe_callB (cr_any hc) hg B.any (by decide +kernel) (pa_cons he pa_nil hs) (by decide) (by decide) hs rfl
theorem pe_all (K : PySem.W.Frag) (B : Blt X.mg) (hc : X.calm = true) (he : PE X e te) (hg : Gl X "all" := by rfl) (hK : X.K = K := by rfl) (hs : starEach [e] X.env = (false, eval e X.env) :: starEach [] X.env := by rfl) :
    PE X (.Call (.Name "all" p) [e] [] pos) (tCB (rAll K) (tCons te tNil)) := by
  subst hK
  exact pe_callB (cr_all hc) hg B.all (by decide +kernel) (pa_cons he pa_nil hs) (by decide) (by decide) hs rfl
theorem pi_listK (K : PySem.W.Frag) (he : PE X e te) (hK : X.K = K := by rfl) : PI X tg e (iList K te) := by
  subst hK
  exact pi_list he
end

/-! ### heaps -/
theorem same_put {H0 H : Hp} {a : Addr} {o : HO} (s : Same H0 H) (n : H0 a = none) : Same H0 (upd H a o) := fun b u e => by
  rw [upd_ne (ne_of_none e n)]
  exact s b u e
theorem same_new {H0 H : Hp} {a : Addr} {o : HO} (s : Same H0 H) (n : H a = none) : Same H0 (upd H a o) := same_put s (s.free n)
theorem same_one {H : Hp} {a : Addr} {o : HO} (n : H a = none) : Same H (upd H a o) := same_new (Same.refl H) n

/-! ### lists of numbers -/
def nv (l : List Nat) : List V := l.map fun (n : Nat) => V.int (n : Int)
theorem nv_len (l : List Nat) : (nv l).length = l.length := List.length_map ..
theorem nv_app (l m : List Nat) : nv (l ++ m) = nv l ++ nv m := List.map_append ..
theorem nv_get {l : List Nat} {i : Nat} (h : i < l.length) : (nv l)[i]? = some (V.int ((l.getD i 0 : Nat) : Int)) := by
  unfold nv
  rw [List.getElem?_map, List.getElem?_eq_getElem h, List.getD_eq_getElem?_getD, List.getElem?_eq_getElem h]
  rfl
theorem nv_of {l : List Nat} {i : Nat} {x : V} (h : (nv l)[i]? = some x) : i < l.length ∧ x = V.int ((l.getD i 0 : Nat) : Int) := by
  have hi : i < l.length := by
    have := (List.getElem?_eq_some_iff.mp h).1
    rwa [nv_len] at this
  rw [nv_get hi] at h
  exact ⟨hi, (Option.some.inj h).symm⟩
theorem nv_ints (l : List Nat) : nv l = (l.map fun (n : Nat) => (n : Int)).map V.int := by
  unfold nv
  rw [List.map_map]
  rfl
theorem nv_flat (l : List Nat) : (nv l).all flatV = true := by
  unfold nv
  rw [List.all_eq_true]
  intro x hx
  obtain ⟨n, _, rfl⟩ := List.mem_map.mp hx
  rfl
theorem inV_nv (n : Nat) (l : List Nat) : inV (.int (n : Int)) (nv l) = l.contains n := by
  unfold inV nv
  rw [List.any_map, Bool.eq_iff_iff, List.any_eq_true, List.contains_iff_mem]
  constructor
  · rintro ⟨m, hm, e⟩
    have e' : ((m : Int) == (n : Int)) = true := e
    have : m = n := by
      have z : (m : Int) = (n : Int) := by simpa using e'
      omega
    rwa [← this]
  · intro h
    exact ⟨n, h, by show ((n : Int) == (n : Int)) = true; simp⟩
theorem line_of {n : Nat} (h : n ≤ 16777216) : n ≤ sizeLine := by rw [sizeLine_eq]; exact h
theorem line_lt {n : Nat} (h : n < 16777216) : n < sizeLine := by rw [sizeLine_eq]; exact h

/-! ### comprehensions whose items are known ahead: f i is the item of turn i, none where it is left out -/
section
variable {g : TG} {tt : TT} {te : TE} {vs : List Nat} {σ : L2.St} {H1 : Hp} {D : Addr} {Qd : Hp → Prop}
/-- a comprehension without a test -/
theorem yes_go {σ' : L2.St} {H : Hp} {te' : L2.St → Hp → VK → Prop} {Yes : V → Hp → Prop} {No : Hp → Prop} (h : te' σ' H Yes) : tYes σ' H fun b H3 => if b = true then te' σ' H3 Yes else No H3 := by
  show if true = true then te' σ' H Yes else No H
  rw [if_pos rfl]
  exact h
theorem picks_len (f : Nat → Option V) (i : Nat) : ((List.range i).filterMap f).length ≤ i := by
  have := List.length_filterMap_le f (List.range i)
  simpa using this
theorem picks_yes {f : Nat → Option V} {i : Nat} {y : V} (h : f i = some y) : (List.range (i + 1)).filterMap f = (List.range i).filterMap f ++ [y] := by
  rw [List.range_succ, List.filterMap_append, List.filterMap_cons, h]
  rfl
theorem picks_no {f : Nat → Option V} {i : Nat} (h : f i = none) : (List.range (i + 1)).filterMap f = (List.range i).filterMap f := by
  rw [List.range_succ, List.filterMap_append, List.filterMap_cons, h]
  simp
theorem lc_list_of {K : PySem.W.Frag} {a : Addr} {xs : List V} (f : Nat → Option V) (hn : H1 D = none) (hs : SqL K H1 a xs) (hl : xs.length ≤ 1000000)
    (turn : ∀ i x H, xs[i]? = some x → Same H1 H → ∀ (Yes : V → Hp → Prop) (No : Hp → Prop), (∀ H' y, Same H H' → f i = some y → Yes y H') → (∀ H', Same H H' → f i = none → No H') →
      g x (wipe σ vs) H fun σ2 H2 => wipe σ2 vs = wipe σ vs ∧ tt σ2 H2 fun b H3 => if b = true then te σ2 H3 Yes else No H3)
    (hd : ∀ H, Same H1 H → H D = some (.lst ((List.range xs.length).filterMap f)) → Qd H) :
    ∃ W : Nat → Nat → Hp → Prop, (∃ m, W 0 m (upd H1 D (.lst []))) ∧ ∀ i m H, W i m H →
      ((Itl K a).stop i H ∧ Qd H) ∨ ((Itl K a).go i H ∧ ∃ Nx : Hp → Prop, (∀ H', Nx H' → ∃ m', m' < m ∧ W (i + 1) m' H') ∧ ∀ x H', (Itl K a).yld i H x H' → g x (wipe σ vs) H' fun σ2 H2 => wipe σ2 vs = wipe σ vs ∧ tt σ2 H2 fun b H3 =>
        if b = true then te σ2 H3 fun y H4 => ∃ acc, H4 D = some (.lst acc) ∧ acc.length < sizeLine ∧ Nx (upd H4 D (.lst (acc ++ [y]))) else Nx H3) := by
  refine lc_list (xs := xs) (fun i H => Same H1 H ∧ H D = some (.lst ((List.range i).filterMap f))) ⟨same_one hn, upd_same⟩ (fun i H _ p => p.1.seq hs) (fun i x H hx p => ?_) fun H p => hd H p.1 p.2
  have hi : i < xs.length := (List.getElem?_eq_some_iff.mp hx).1
  refine turn i x H hx p.1 _ _ (fun H' y s e => ⟨_, s _ _ p.2, ?_, ?_, ?_⟩) fun H' s e => ⟨p.1.trans s, ?_⟩
  · exact line_lt (Nat.lt_of_le_of_lt (picks_len f i) (by omega))
  · exact same_put (p.1.trans s) hn
  · rw [upd_same, picks_yes e]
  · rw [picks_no e]
    exact s _ _ p.2
theorem lc_range_of {lo : Int} {n : Nat} (f : Nat → Option V) (hn : H1 D = none) (hl : n ≤ 1000000)
    (turn : ∀ i H, i < n → Same H1 H → ∀ (Yes : V → Hp → Prop) (No : Hp → Prop), (∀ H' y, Same H H' → f i = some y → Yes y H') → (∀ H', Same H H' → f i = none → No H') →
      g (.int (lo + i)) (wipe σ vs) H fun σ2 H2 => wipe σ2 vs = wipe σ vs ∧ tt σ2 H2 fun b H3 => if b = true then te σ2 H3 Yes else No H3)
    (hd : ∀ H, Same H1 H → H D = some (.lst ((List.range n).filterMap f)) → Qd H) :
    ∃ W : Nat → Nat → Hp → Prop, (∃ m, W 0 m (upd H1 D (.lst []))) ∧ ∀ i m H, W i m H →
      ((Itr lo n).stop i H ∧ Qd H) ∨ ((Itr lo n).go i H ∧ ∃ Nx : Hp → Prop, (∀ H', Nx H' → ∃ m', m' < m ∧ W (i + 1) m' H') ∧ ∀ x H', (Itr lo n).yld i H x H' → g x (wipe σ vs) H' fun σ2 H2 => wipe σ2 vs = wipe σ vs ∧ tt σ2 H2 fun b H3 =>
        if b = true then te σ2 H3 fun y H4 => ∃ acc, H4 D = some (.lst acc) ∧ acc.length < sizeLine ∧ Nx (upd H4 D (.lst (acc ++ [y]))) else Nx H3) := by
  refine lc_range (fun i H => Same H1 H ∧ H D = some (.lst ((List.range i).filterMap f))) ⟨same_one hn, upd_same⟩ (fun i H hi p => ?_) fun H p => hd H p.1 p.2
  refine turn i H hi p.1 _ _ (fun H' y s e => ⟨_, s _ _ p.2, ?_, ?_, ?_⟩) fun H' s e => ⟨p.1.trans s, ?_⟩
  · exact line_lt (Nat.lt_of_le_of_lt (picks_len f i) (by omega))
  · exact same_put (p.1.trans s) hn
  · rw [upd_same, picks_yes e]
  · rw [picks_no e]
    exact s _ _ p.2
theorem lc_range0_of {n : Nat} (f : Nat → Option V) (hn : H1 D = none) (hl : n ≤ 1000000)
    (turn : ∀ (i : Nat) H, i < n → Same H1 H → ∀ (Yes : V → Hp → Prop) (No : Hp → Prop), (∀ H' y, Same H H' → f i = some y → Yes y H') → (∀ H', Same H H' → f i = none → No H') →
      g (.int (i : Int)) (wipe σ vs) H fun σ2 H2 => wipe σ2 vs = wipe σ vs ∧ tt σ2 H2 fun b H3 => if b = true then te σ2 H3 Yes else No H3)
    (hd : ∀ H, Same H1 H → H D = some (.lst ((List.range n).filterMap f)) → Qd H) :
    ∃ W : Nat → Nat → Hp → Prop, (∃ m, W 0 m (upd H1 D (.lst []))) ∧ ∀ i m H, W i m H →
      ((Itr 0 n).stop i H ∧ Qd H) ∨ ((Itr 0 n).go i H ∧ ∃ Nx : Hp → Prop, (∀ H', Nx H' → ∃ m', m' < m ∧ W (i + 1) m' H') ∧ ∀ x H', (Itr 0 n).yld i H x H' → g x (wipe σ vs) H' fun σ2 H2 => wipe σ2 vs = wipe σ vs ∧ tt σ2 H2 fun b H3 =>
        if b = true then te σ2 H3 fun y H4 => ∃ acc, H4 D = some (.lst acc) ∧ acc.length < sizeLine ∧ Nx (upd H4 D (.lst (acc ++ [y]))) else Nx H3) :=
  lc_range_of f hn hl (fun i H hi s Yes No hy hno => by
    rw [Int.zero_add]
    exact turn i H hi s Yes No hy hno) hd
end
/-- the picks, as a map and a filter -/
theorem take_more {α : Type} : ∀ {l : List α} {i : Nat} {x : α}, l[i]? = some x → l.take (i + 1) = l.take i ++ [x]
  | [], i, x, h => by simp at h
  | a :: l, 0, x, h => by
    have e : a = x := Option.some.inj h
    subst e
    rfl
  | a :: l, i + 1, x, h => by
    have ih := take_more (l := l) (i := i) (x := x) h
    show a :: l.take (i + 1) = a :: l.take i ++ [x]
    rw [ih]
    rfl
theorem picks_all {α : Type} (l : List α) (h : α → V) (f : Nat → Option V) (e : ∀ i x, l[i]? = some x → f i = some (h x)) : (List.range l.length).filterMap f = l.map h := by
  have go : ∀ n, n ≤ l.length → (List.range n).filterMap f = (l.take n).map h := by
    intro n
    induction n with
    | zero => intro _; rfl
    | succ n ih =>
      intro hn
      have hx : l[n]? = some l[n] := List.getElem?_eq_getElem (by omega)
      rw [picks_yes (e n _ hx), ih (by omega), take_more hx, List.map_append]
      rfl
  have := go l.length (Nat.le_refl _)
  rwa [List.take_length] at this
theorem picks_range (n : Nat) (p : Nat → Bool) (h : Nat → V) : (List.range n).filterMap (fun i => if p i = true then some (h i) else none) = ((List.range n).filter p).map h := by
  induction n with
  | zero => rfl
  | succ n ih =>
    by_cases c : p n = true
    · rw [picks_yes (y := h n) (by rw [if_pos c]), ih, List.range_succ, List.filter_append, List.map_append]
      simp [c]
    · rw [picks_no (by rw [if_neg c]), ih, List.range_succ, List.filter_append]
      simp [c]
theorem picks_filter {α : Type} (l : List α) (p : α → Bool) (h : α → V) (f : Nat → Option V) (e : ∀ i x, l[i]? = some x → f i = if p x = true then some (h x) else none) : (List.range l.length).filterMap f = (l.filter p).map h := by
  have go : ∀ n, n ≤ l.length → (List.range n).filterMap f = ((l.take n).filter p).map h := by
    intro n
    induction n with
    | zero => intro _; rfl
    | succ n ih =>
      intro hn
      have hx : l[n]? = some l[n] := List.getElem?_eq_getElem (by omega)
      have ex := e n _ hx
      rw [take_more hx, List.filter_append, List.map_append]
      by_cases c : p l[n] = true
      · rw [if_pos c] at ex
        rw [picks_yes ex, ih (by omega)]
        simp [c]
      · rw [if_neg c] at ex
        rw [picks_no ex, ih (by omega)]
        simp [c]
  have := go l.length (Nat.le_refl _)
  rwa [List.take_length] at this
end SW

namespace SW
open Sy76 (St open_)
/-! ### sorted numbers, each once -/
theorem mem_insert {x n : Nat} : ∀ {l : List Nat}, x ∈ Sy76.insert n l ↔ x = n ∨ x ∈ l
  | [] => by simp [Sy76.insert]
  | m :: l => by
    unfold Sy76.insert
    split
    · simp
    · split
      · rename_i e; subst e; simp
      · simp only [List.mem_cons, mem_insert (l := l)]
        constructor
        · rintro (h | h | h)
          · exact .inr (.inl h)
          · exact .inl h
          · exact .inr (.inr h)
        · rintro (h | h | h)
          · exact .inr (.inl h)
          · exact .inl h
          · exact .inr (.inr h)
theorem up_insert {n : Nat} : ∀ {l : List Nat}, l.Pairwise (· < ·) → (Sy76.insert n l).Pairwise (· < ·)
  | [], _ => List.pairwise_singleton _ _
  | m :: l, h => by
    have ⟨h1, h2⟩ := List.pairwise_cons.mp h
    unfold Sy76.insert
    split
    · rename_i c
      refine List.pairwise_cons.mpr ⟨fun x hx => ?_, h⟩
      rcases List.mem_cons.mp hx with e | hx
      · rw [e]; exact c
      · exact Nat.lt_trans c (h1 x hx)
    · split
      · exact h
      · refine List.pairwise_cons.mpr ⟨fun x hx => ?_, up_insert h2⟩
        rcases mem_insert.mp hx with e | hx
        · rw [e]; omega
        · exact h1 x hx
theorem len_insert {n : Nat} : ∀ {l : List Nat}, (Sy76.insert n l).length ≤ l.length + 1
  | [] => by simp [Sy76.insert]
  | m :: l => by
    unfold Sy76.insert
    split
    · simp
    · split
      · simp
      · have := len_insert (n := n) (l := l)
        simp only [List.length_cons]
        omega
theorem sorted_go : ∀ (l m : List Nat), m.Pairwise (· < ·) →
    (l.foldl (fun (m : List Nat) (n : Nat) => Sy76.insert n m) m).Pairwise (· < ·) ∧ (∀ x, x ∈ l.foldl (fun (m : List Nat) (n : Nat) => Sy76.insert n m) m ↔ x ∈ l ∨ x ∈ m) ∧ (l.foldl (fun (m : List Nat) (n : Nat) => Sy76.insert n m) m).length ≤ l.length + m.length
  | [], m, h => ⟨h, fun x => by simp, by simp⟩
  | n :: l, m, h => by
    obtain ⟨h1, h2, h3⟩ := sorted_go l (Sy76.insert n m) (up_insert h)
    refine ⟨h1, fun x => ?_, ?_⟩
    · rw [List.foldl_cons, h2 x, mem_insert, List.mem_cons]
      constructor
      · rintro (h | h | h)
        · exact .inl (.inr h)
        · exact .inl (.inl h)
        · exact .inr h
      · rintro ((h | h) | h)
        · exact .inr (.inl h)
        · exact .inl h
        · exact .inr (.inr h)
    · rw [List.foldl_cons, List.length_cons]
      have := len_insert (n := n) (l := m)
      omega
theorem sortedOf_up (l : List Nat) : (Sy76.sortedOf l).Pairwise (· < ·) := (sorted_go l [] List.Pairwise.nil).1
theorem sortedOf_mem {l : List Nat} {x : Nat} : x ∈ Sy76.sortedOf l ↔ x ∈ l := by
  have h := (sorted_go l [] List.Pairwise.nil).2.1 x
  unfold Sy76.sortedOf
  rw [h]
  simp
theorem sortedOf_len (l : List Nat) : (Sy76.sortedOf l).length ≤ l.length := by
  have h := (sorted_go l [] List.Pairwise.nil).2.2
  simpa [Sy76.sortedOf] using h
theorem up_uniq : ∀ {l m : List Int}, l.Pairwise (· < ·) → m.Pairwise (· < ·) → (∀ x, x ∈ l ↔ x ∈ m) → l = m
  | [], [], _, _, _ => rfl
  | [], y :: m, _, _, h => absurd ((h y).mpr List.mem_cons_self) (by simp)
  | x :: l, [], _, _, h => absurd ((h x).mp List.mem_cons_self) (by simp)
  | x :: l, y :: m, h1, h2, h => by
    have ⟨a1, a2⟩ := List.pairwise_cons.mp h1
    have ⟨b1, b2⟩ := List.pairwise_cons.mp h2
    have e : x = y := by
      rcases List.mem_cons.mp ((h x).mp List.mem_cons_self) with e | hx
      · exact e
      · rcases List.mem_cons.mp ((h y).mpr List.mem_cons_self) with e | hy
        · exact e.symm
        · have := a1 y hy
          have := b1 x hx
          omega
    subst e
    have nl : x ∉ l := fun hx => by have := a1 x hx; omega
    have nm : x ∉ m := fun hx => by have := b1 x hx; omega
    rw [up_uniq a2 b2 fun z => ?_]
    constructor
    · intro hz
      rcases List.mem_cons.mp ((h z).mp (List.mem_cons_of_mem _ hz)) with e | hz'
      · rw [e] at hz; exact absurd hz nl
      · exact hz'
    · intro hz
      rcases List.mem_cons.mp ((h z).mpr (List.mem_cons_of_mem _ hz)) with e | hz'
      · rw [e] at hz; exact absurd hz nm
      · exact hz'
/-- the numbers of a set, rising: they are sortedOf -/
theorem rising_is {l : List Nat} {ns : List Int} (h1 : ns.Pairwise (· < ·)) (h2 : ∀ k : Int, k ∈ ns ↔ k ∈ l.map fun (n : Nat) => (n : Int)) : ns = (Sy76.sortedOf l).map fun (n : Nat) => (n : Int) := by
  refine up_uniq h1 ?_ fun x => ?_
  · rw [List.pairwise_map]
    exact (sortedOf_up l).imp fun {a b} h => by omega
  · rw [h2 x, List.mem_map, List.mem_map]
    constructor
    · rintro ⟨a, ha, e⟩; exact ⟨a, sortedOf_mem.mpr ha, e⟩
    · rintro ⟨a, ha, e⟩; exact ⟨a, sortedOf_mem.mp ha, e⟩
/-! ### a spray -/
def spr (cells st : List Nat) (c : Nat) : List Nat := (List.range cells.length).map fun i => if st.contains i = true then c else cells.getD i 0
theorem spr_len (cells st : List Nat) (c : Nat) : (spr cells st c).length = cells.length := by simp [spr]
theorem spr_eq (s : St) (w : List Nat) (k c : Nat) : Sy76.sprayed s w (k, c) = spr w (open_ s k) c := by
  refine List.ext_getElem ?_ fun i h1 h2 => ?_
  · simp [Sy76.sprayed, spr]
  · have hw : i < w.length := by simpa [Sy76.sprayed] using h1
    simp [Sy76.sprayed, spr, List.getElem?_eq_getElem hw]
theorem ran_len (s : St) : ∀ (l : List (Nat × Nat)) (w : List Nat), (l.foldl (Sy76.sprayed s) w).length = w.length
  | [], _ => rfl
  | x :: l, w => by
    rw [List.foldl_cons, ran_len s l]
    simp [Sy76.sprayed]
/-! ### what holds of every wall -/
structure WF (s : St) : Prop where
  r1 : 1 ≤ s.rows
  r5 : s.rows ≤ 5
  c1 : 1 ≤ s.cols
  c5 : s.cols ≤ 5
  wall : s.wall.length = s.rows * s.cols
  pic : s.picture.length = s.rows * s.cols
  many : s.stencils.length ≤ 5
  inside : ∀ l ∈ s.stencils, ∀ i ∈ l, i < s.rows * s.cols
  few : ∀ l ∈ s.stencils, l.length ≤ 60
theorem wf_init : WF Sy76.init := ⟨by decide, by decide, by decide, by decide, by decide, by decide, by decide, by simp [Sy76.init], by simp [Sy76.init]⟩
/-- a call's list is not too long -/
def Short : Sy76.Call → Prop
  | .stencil l => l.length ≤ 60
  | .picture l => l.length ≤ 60
  | .by_ l => l.length ≤ 60
  | _ => True
theorem step_wf {s : St} {x : Sy76.Call} (h : WF s) (hx : Short x) : WF (Sy76.step s x).1 := by
  cases x with
  | begins r c =>
    unfold Sy76.step
    dsimp only
    split
    · exact h
    · rename_i hc
      exact ⟨by dsimp only; omega, by dsimp only; omega, by dsimp only; omega, by dsimp only; omega, List.length_replicate .., List.length_replicate .., Nat.zero_le _, fun l hl => absurd hl (by simp), fun l hl => absurd hl (by simp)⟩
  | stencil l =>
    unfold Sy76.step
    dsimp only
    split
    · exact h
    · rename_i hc
      split
      · exact h
      · rename_i h5
        refine ⟨h.r1, h.r5, h.c1, h.c5, h.wall, h.pic, ?_, ?_, ?_⟩
        · show (s.stencils ++ [Sy76.sortedOf l]).length ≤ 5
          rw [List.length_append, List.length_singleton]
          omega
        · intro m hm i hi
          rcases List.mem_append.mp (show m ∈ s.stencils ++ [Sy76.sortedOf l] from hm) with hm | hm
          · exact h.inside m hm i hi
          · have e : m = Sy76.sortedOf l := by simpa using hm
            rw [e] at hi
            have hi' := sortedOf_mem.mp hi
            refine Classical.byContradiction fun hn => hc (.inr ?_)
            rw [List.any_eq_true]
            exact ⟨i, hi', decide_eq_true (Nat.le_of_not_lt hn)⟩
        · intro m hm
          rcases List.mem_append.mp (show m ∈ s.stencils ++ [Sy76.sortedOf l] from hm) with hm | hm
          · exact h.few m hm
          · have e : m = Sy76.sortedOf l := by simpa using hm
            rw [e]
            exact Nat.le_trans (sortedOf_len l) hx
  | picture l =>
    unfold Sy76.step
    dsimp only
    split
    · exact h
    · rename_i hc
      refine ⟨h.r1, h.r5, h.c1, h.c5, h.wall, ?_, h.many, h.inside, h.few⟩
      show l.length = s.rows * s.cols
      refine Classical.byContradiction fun hn => hc (.inl hn)
  | spray k c =>
    unfold Sy76.step
    dsimp only
    split
    · exact h
    · split
      · exact h
      · refine ⟨h.r1, h.r5, h.c1, h.c5, ?_, h.pic, h.many, h.inside, h.few⟩
        show (Sy76.sprayed s s.wall (k, c)).length = s.rows * s.cols
        rw [spr_eq, spr_len]
        exact h.wall
  | wash =>
    refine ⟨h.r1, h.r5, h.c1, h.c5, ?_, h.pic, h.many, h.inside, h.few⟩
    show (List.replicate (Sy76.size s) 0).length = s.rows * s.cols
    rw [List.length_replicate]
    rfl
  | wrong => exact h
  | fewest => exact h
  | plan k => exact h
  | needed => exact h
  | by_ l => exact h
  | wall => exact h
  | state => exact h
end SW

namespace SW
open Sy76 (Call)
/-! ### a call's number, its numbers, its list; how it is written -/
def num : Call → Int
  | .begins _ _ => 0
  | .stencil _ => 1
  | .picture _ => 2
  | .spray _ _ => 3
  | .wash => 4
  | .wrong => 5
  | .fewest => 6
  | .plan _ => 7
  | .needed => 8
  | .by_ _ => 9
  | .wall => 10
  | .state => 11
def nums : Call → List Nat
  | .begins r c => [r, c]
  | .spray k c => [k, c]
  | .plan k => [k]
  | _ => []
def rowOf : Call → List Nat
  | .stencil l => l
  | .picture l => l
  | .by_ l => l
  | _ => []
def listed : Call → Bool
  | .stencil _ => true
  | .picture _ => true
  | .by_ _ => true
  | _ => false
def zs (l : List Nat) : List Int := l.map fun (n : Nat) => (n : Int)
def enc (x : Call) : List Int := num x :: (zs (nums x) ++ (if listed x = true then ((rowOf x).length : Int) :: zs (rowOf x) else []))
theorem nat_in {l : List Int} {n : Nat} {r : List Int} (h : Sy76Neutral.natIn l = some (n, r)) : l = (n : Int) :: r := by
  cases l with
  | nil => cases h
  | cons m l =>
    have h' : (if 0 ≤ m ∧ m < 2 ^ 32 then some (m.toNat, l) else none) = some (n, r) := h
    split at h'
    · rename_i c
      injection h' with h'
      injection h' with h1 h2
      subst h1; subst h2
      rw [Int.toNat_of_nonneg c.1]
    · cases h'
theorem many_nat : ∀ (k : Nat) (l : List Int) (y : List Nat) (r : List Int), Sy76Neutral.many_ Sy76Neutral.natIn k l = some (y, r) → l = zs y ++ r ∧ y.length = k
  | 0, l, y, r, h => by
    unfold Sy76Neutral.many_ at h
    injection h with h
    injection h with h1 h2
    subst h1; subst h2
    exact ⟨rfl, rfl⟩
  | k + 1, l, y, r, h => by
    unfold Sy76Neutral.many_ at h
    cases e : Sy76Neutral.natIn l with
    | none => rw [e] at h; cases h
    | some x =>
      obtain ⟨n, l'⟩ := x
      rw [e] at h
      cases e2 : Sy76Neutral.many_ Sy76Neutral.natIn k l' with
      | none =>
        have h' : (Sy76Neutral.many_ Sy76Neutral.natIn k l').map _ = some (y, r) := h
        rw [e2] at h'
        cases h'
      | some z =>
        obtain ⟨y', r'⟩ := z
        have h' : (Sy76Neutral.many_ Sy76Neutral.natIn k l').map _ = some (y, r) := h
        rw [e2] at h'
        injection h' with h'
        injection h' with h1 h2
        have h1' : n :: y' = y := h1
        have h2' : r' = r := h2
        subst h1'; subst h2'
        obtain ⟨a, b⟩ := many_nat k l' y' r' e2
        have c := nat_in e
        refine ⟨?_, by rw [List.length_cons, b]⟩
        rw [c, a]
        rfl
theorem all_some {A : Type} {x : Option (A × List Int)} {y : A} (h : Sy76Neutral.all_ x = some y) : x = some (y, []) := by
  unfold Sy76Neutral.all_ at h
  cases x with
  | none => cases h
  | some z =>
    obtain ⟨a, r⟩ := z
    have h' : (if r.isEmpty = true then some a else none) = some y := h
    split at h'
    · rename_i c
      injection h' with h'
      subst h'
      rw [List.isEmpty_iff.mp c]
    · cases h'
theorem row_some {l : List Int} {y : List Nat} (h : Sy76Neutral.all_ (Sy76Neutral.rowIn l) = some y) : l = (y.length : Int) :: zs y ∧ y.length ≤ 60 := by
  have h1 := all_some h
  unfold Sy76Neutral.rowIn Sy76Neutral.listIn at h1
  cases l with
  | nil => cases h1
  | cons n l =>
    dsimp only at h1
    split at h1
    · rename_i c
      obtain ⟨a, b⟩ := many_nat _ _ _ _ h1
      rw [List.append_nil] at a
      subst a
      have e : n = (y.length : Int) := by omega
      subst e
      exact ⟨rfl, by omega⟩
    · cases h1
theorem some_some {k : Nat} {l : List Int} {y : List Nat} (h : Sy76Neutral.all_ (Sy76Neutral.some_ k l) = some y) : l = zs y ∧ y.length = k := by
  have h1 := all_some h
  obtain ⟨a, b⟩ := many_nat _ _ _ _ h1
  rw [List.append_nil] at a
  exact ⟨a, b⟩
/-! ### the parts of a list, each call as it is written -/
theorem row_split {l : List Int} {x t : List Int} (h : PyFlat.row l = some (x, t)) : l = (x.length : Int) :: (x ++ t) := by
  cases l with
  | nil => cases h
  | cons n l =>
    have h' : (if 0 ≤ n ∧ n.toNat ≤ l.length then some (l.take n.toNat, l.drop n.toNat) else none) = some (x, t) := h
    split at h'
    · rename_i c
      injection h' with h'
      injection h' with h1 h2
      subst h1; subst h2
      rw [List.take_append_drop, List.length_take]
      have e : ((min n.toNat l.length : Nat) : Int) = n := by omega
      rw [e]
    · cases h'
theorem rows0 {l : List Int} {xs : List (List Int)} {t : List Int} (h : PyFlat.rows 0 l = some (xs, t)) : xs = [] ∧ t = l := by
  unfold PyFlat.rows at h
  injection h with h
  injection h with h1 h2
  exact ⟨h1.symm, h2.symm⟩
theorem rows1 {l : List Int} {xs : List (List Int)} {t : List Int} (h : PyFlat.rows 1 l = some (xs, t)) : ∃ x, xs = [x] ∧ l = (x.length : Int) :: (x ++ t) := by
  unfold PyFlat.rows at h
  cases e : PyFlat.row l with
  | none => rw [e] at h; cases h
  | some z =>
    obtain ⟨x, s⟩ := z
    rw [e] at h
    unfold PyFlat.rows at h
    dsimp only at h
    injection h with h
    injection h with h1 h2
    subst h2
    exact ⟨x, h1.symm, row_split e⟩
theorem call_enc {p : Int} {r : List Int} {c : List (List Int)} {t : List Int} (h : PyFlat.call PySy76.shape (p :: r) = some (c, t)) {x : Call} (hx : Sy76Neutral.callOf ((PySy76.whole c).headD []) = some x) :
    p :: r = enc x ++ t ∧ Short x := by
  unfold PyFlat.call at h
  dsimp only at h
  cases es : PySy76.shape p with
  | none => rw [es] at h; cases h
  | some nk =>
    obtain ⟨n, k⟩ := nk
    rw [es] at h
    dsimp only at h
    split at h
    · cases h
    · rename_i hl
      cases er : PyFlat.rows k (r.drop n) with
      | none => rw [er] at h; cases h
      | some z =>
        obtain ⟨xs, t'⟩ := z
        rw [er] at h
        dsimp only at h
        injection h with h
        injection h with h1 h2
        subst h1; subst h2
        unfold PySy76.shape at es
        by_cases c0 : p = 0
        · rw [if_pos c0] at es
          injection es with es
          injection es with e1 e2
          subst e1; subst e2; subst c0
          obtain ⟨a, b⟩ := rows0 er
          subst a; subst b
          match r, hl with
          | x0 :: x1 :: r', _ =>
            have hx' : (Sy76Neutral.all_ (Sy76Neutral.some_ 2 [x0, x1])).map _ = some x := hx
            obtain ⟨y, hy, rfl⟩ := Option.map_eq_some_iff.mp hx'
            obtain ⟨a, b⟩ := some_some hy
            match y, b, a with
            | [y0, y1], _, a =>
              injection a with a0 a
              injection a with a1 _
              subst a0; subst a1
              exact ⟨rfl, trivial⟩
          | [x0], hl => exact absurd (show [x0].length < 2 by simp) hl
          | [], hl => exact absurd (show ([] : List Int).length < 2 by simp) hl
        rw [if_neg c0] at es
        by_cases c1 : p = 1
        · rw [if_pos c1] at es
          injection es with es
          injection es with e1 e2
          subst e1; subst e2; subst c1
          obtain ⟨y0, a, b⟩ := rows1 er
          subst a
          rw [List.drop_zero] at b
          subst b
          have hx' : (Sy76Neutral.all_ (Sy76Neutral.rowIn ((y0.length : Int) :: y0))).map _ = some x := hx
          obtain ⟨y, hy, rfl⟩ := Option.map_eq_some_iff.mp hx'
          obtain ⟨a, b⟩ := row_some hy
          injection a with a1 a2
          subst a2
          refine ⟨?_, b⟩
          rw [a1]
          rfl
        rw [if_neg c1] at es
        by_cases c2 : p = 2
        · rw [if_pos c2] at es
          injection es with es
          injection es with e1 e2
          subst e1; subst e2; subst c2
          obtain ⟨y0, a, b⟩ := rows1 er
          subst a
          rw [List.drop_zero] at b
          subst b
          have hx' : (Sy76Neutral.all_ (Sy76Neutral.rowIn ((y0.length : Int) :: y0))).map _ = some x := hx
          obtain ⟨y, hy, rfl⟩ := Option.map_eq_some_iff.mp hx'
          obtain ⟨a, b⟩ := row_some hy
          injection a with a1 a2
          subst a2
          refine ⟨?_, b⟩
          rw [a1]
          rfl
        rw [if_neg c2] at es
        by_cases c3 : p = 3
        · rw [if_pos c3] at es
          injection es with es
          injection es with e1 e2
          subst e1; subst e2; subst c3
          obtain ⟨a, b⟩ := rows0 er
          subst a; subst b
          match r, hl with
          | x0 :: x1 :: r', _ =>
            have hx' : (Sy76Neutral.all_ (Sy76Neutral.some_ 2 [x0, x1])).map _ = some x := hx
            obtain ⟨y, hy, rfl⟩ := Option.map_eq_some_iff.mp hx'
            obtain ⟨a, b⟩ := some_some hy
            match y, b, a with
            | [y0, y1], _, a =>
              injection a with a0 a
              injection a with a1 _
              subst a0; subst a1
              exact ⟨rfl, trivial⟩
          | [x0], hl => exact absurd (show [x0].length < 2 by simp) hl
          | [], hl => exact absurd (show ([] : List Int).length < 2 by simp) hl
        rw [if_neg c3] at es
        by_cases c4 : p = 4
        · rw [if_pos c4] at es
          injection es with es
          injection es with e1 e2
          subst e1; subst e2; subst c4
          obtain ⟨a, b⟩ := rows0 er
          subst a; subst b
          rw [List.take_zero] at hx
          have hx' : some Call.wash = some x := hx
          injection hx' with hx'
          subst hx'
          exact ⟨rfl, trivial⟩
        rw [if_neg c4] at es
        by_cases c5 : p = 5
        · rw [if_pos c5] at es
          injection es with es
          injection es with e1 e2
          subst e1; subst e2; subst c5
          obtain ⟨a, b⟩ := rows0 er
          subst a; subst b
          rw [List.take_zero] at hx
          have hx' : some Call.wrong = some x := hx
          injection hx' with hx'
          subst hx'
          exact ⟨rfl, trivial⟩
        rw [if_neg c5] at es
        by_cases c6 : p = 6
        · rw [if_pos c6] at es
          injection es with es
          injection es with e1 e2
          subst e1; subst e2; subst c6
          obtain ⟨a, b⟩ := rows0 er
          subst a; subst b
          rw [List.take_zero] at hx
          have hx' : some Call.fewest = some x := hx
          injection hx' with hx'
          subst hx'
          exact ⟨rfl, trivial⟩
        rw [if_neg c6] at es
        by_cases c7 : p = 7
        · rw [if_pos c7] at es
          injection es with es
          injection es with e1 e2
          subst e1; subst e2; subst c7
          obtain ⟨a, b⟩ := rows0 er
          subst a; subst b
          match r, hl with
          | x0 :: r', _ =>
            have hx' : (Sy76Neutral.all_ (Sy76Neutral.some_ 1 [x0])).map _ = some x := hx
            obtain ⟨y, hy, rfl⟩ := Option.map_eq_some_iff.mp hx'
            obtain ⟨a, b⟩ := some_some hy
            match y, b, a with
            | [y0], _, a =>
              injection a with a0 _
              subst a0
              exact ⟨rfl, trivial⟩
          | [], hl => exact absurd (show ([] : List Int).length < 1 by simp) hl
        rw [if_neg c7] at es
        by_cases c8 : p = 8
        · rw [if_pos c8] at es
          injection es with es
          injection es with e1 e2
          subst e1; subst e2; subst c8
          obtain ⟨a, b⟩ := rows0 er
          subst a; subst b
          rw [List.take_zero] at hx
          have hx' : some Call.needed = some x := hx
          injection hx' with hx'
          subst hx'
          exact ⟨rfl, trivial⟩
        rw [if_neg c8] at es
        by_cases c9 : p = 9
        · rw [if_pos c9] at es
          injection es with es
          injection es with e1 e2
          subst e1; subst e2; subst c9
          obtain ⟨y0, a, b⟩ := rows1 er
          subst a
          rw [List.drop_zero] at b
          subst b
          have hx' : (Sy76Neutral.all_ (Sy76Neutral.rowIn ((y0.length : Int) :: y0))).map _ = some x := hx
          obtain ⟨y, hy, rfl⟩ := Option.map_eq_some_iff.mp hx'
          obtain ⟨a, b⟩ := row_some hy
          injection a with a1 a2
          subst a2
          refine ⟨?_, b⟩
          rw [a1]
          rfl
        rw [if_neg c9] at es
        by_cases c10 : p = 10
        · rw [if_pos c10] at es
          injection es with es
          injection es with e1 e2
          subst e1; subst e2; subst c10
          obtain ⟨a, b⟩ := rows0 er
          subst a; subst b
          rw [List.take_zero] at hx
          have hx' : some Call.wall = some x := hx
          injection hx' with hx'
          subst hx'
          exact ⟨rfl, trivial⟩
        rw [if_neg c10] at es
        by_cases c11 : p = 11
        · rw [if_pos c11] at es
          injection es with es
          injection es with e1 e2
          subst e1; subst e2; subst c11
          obtain ⟨a, b⟩ := rows0 er
          subst a; subst b
          rw [List.take_zero] at hx
          have hx' : some Call.state = some x := hx
          injection hx' with hx'
          subst hx'
          exact ⟨rfl, trivial⟩
        rw [if_neg c11] at es
        cases es
/-! ### the whole list -/
/-- what is to come: from place on the list is these calls; the answers so far and theirs are all -/
def Ahead (f : Nat) (l : List Int) (cs : List (List (List Int))) : Prop := PyFlat.calls PySy76.shape f l = some cs ∧ ∀ c ∈ cs, (Sy76Neutral.callOf ((PySy76.whole c).headD [])).isSome = true
def toldFrom (s : Sy76.St) (cs : List (List (List Int))) : List Int := PyFlat.told (PyFlat.played (fun s c => Sy76Neutral.step s (c.headD [])) s (cs.map PySy76.whole))
theorem ahead_nil {f : Nat} {cs : List (List (List Int))} {s : Sy76.St} (h : Ahead f [] cs) : toldFrom s cs = [] := by
  have e : PyFlat.calls PySy76.shape f [] = some [] := by cases f <;> rfl
  rw [Ahead, e] at h
  have := Option.some.inj h.1
  subst this
  rfl
theorem ahead_cons {f : Nat} {p : Int} {r : List Int} {cs : List (List (List Int))} {s : Sy76.St} (h : Ahead f (p :: r) cs) :
    ∃ x t f' cs', p :: r = enc x ++ t ∧ Short x ∧ Ahead f' t cs' ∧ toldFrom s cs = ((Sy76Neutral.out (Sy76.step s x).2).length : Int) :: (Sy76Neutral.out (Sy76.step s x).2 ++ toldFrom (Sy76.step s x).1 cs') := by
  obtain ⟨h1, h2⟩ := h
  cases f with
  | zero =>
    have : PyFlat.calls PySy76.shape 0 (p :: r) = none := rfl
    rw [this] at h1
    cases h1
  | succ f =>
    unfold PyFlat.calls at h1
    cases ec : PyFlat.call PySy76.shape (p :: r) with
    | none => rw [ec] at h1; cases h1
    | some z =>
      obtain ⟨c, t⟩ := z
      rw [ec] at h1
      dsimp only at h1
      cases ed : PyFlat.calls PySy76.shape f t with
      | none => rw [ed] at h1; cases h1
      | some cs' =>
        rw [ed] at h1
        dsimp only at h1
        have e := Option.some.inj h1
        subst e
        have hc := h2 c List.mem_cons_self
        obtain ⟨x, hx⟩ := Option.isSome_iff_exists.mp hc
        obtain ⟨a, b⟩ := call_enc ec hx
        refine ⟨x, t, f, cs', a, b, ⟨ed, fun c hc => h2 c (List.mem_cons_of_mem _ hc)⟩, ?_⟩
        have st : Sy76Neutral.step s ((PySy76.whole c).headD []) = ((Sy76.step s x).1, Sy76Neutral.out (Sy76.step s x).2) := by
          unfold Sy76Neutral.step
          rw [hx]
        show PyFlat.told (PyFlat.played (fun s c => Sy76Neutral.step s (c.headD [])) s (PySy76.whole c :: cs'.map PySy76.whole)) = _
        unfold PyFlat.played
        rw [st]
        unfold PyFlat.told
        rw [List.flatMap_cons]
        rfl
/-- what is asked of a list -/
theorem asked_ahead {l : List Int} (h : PySy76.answers_asked l = true) : ∃ cs, Ahead l.length l cs ∧ PySy76.answers l = toldFrom Sy76.init cs ∧ (PySy76.answers l).length ≤ 10000000 := by
  unfold PySy76.answers_asked at h
  cases e : PyFlat.calls PySy76.shape l.length l with
  | none => rw [e] at h; cases h
  | some raw =>
    rw [e] at h
    simp only [Bool.and_eq_true] at h
    obtain ⟨⟨⟨⟨h1, h2⟩, h3⟩, h4⟩, h5⟩ := h
    refine ⟨raw, ⟨e, fun c hc => ?_⟩, ?_, ?_⟩
    · unfold Sy76Neutral.asked at h4
      rw [Bool.and_eq_true] at h4
      have := List.all_eq_true.mp h4.1 ((PySy76.whole c).headD []) (List.mem_map.mpr ⟨PySy76.whole c, List.mem_map.mpr ⟨c, hc, rfl⟩, rfl⟩)
      exact this
    · unfold PySy76.answers PySy76.calls
      rw [e]
      rfl
    · unfold PyFlat.short at h5
      exact of_decide_eq_true h5
end SW

namespace SW
open PySem PySem.Spec PyProof.Rows L2
section
variable {P : Program} {w : World} {K : PySem.W.Frag} {mg : Str → Option Value} {base : Heap}
theorem ne_nv (x y : Nat) : (!decide (V.int (x : Int) = V.int (y : Int))) = (x != y) := by
  rw [Bool.eq_iff_iff]
  simp
  omega
/-! ### otherwise -/
def diff (cells wanted : List Nat) : List Nat := (List.range cells.length).filter fun i => cells.getD i 0 != wanted.getD i 0
def spOtherwise (K : PySem.W.Frag) : Sp := fun vs H Q _ => ∃ (a b : Addr) (cells wanted : List Nat), vs = [.ref a, .ref b] ∧ SqL K H a (nv cells) ∧ SqL K H b (nv wanted) ∧ cells.length ≤ wanted.length ∧ cells.length ≤ 1000 ∧
  ∀ (H' : Hp) (p : Addr), Same H H' → H p = none → H' p = some (.lst (nv (diff cells wanted))) → Q (.ref p) H'
theorem scO : FnScope ["cells", "wanted", "cell"] ["cells", "wanted"] (defScope sOtherwise) := ⟨rfl, rfl, rfl, by decide +kernel, rfl, by decide +kernel, by decide +kernel⟩
theorem ok_otherwise {f : Addr} {fd : FuncData} (F : Fun K "otherwise" "otherwise" sOtherwise f fd) (B : Blt mg) : FnOk P w K mg base CX0 1 f fd ["cells", "wanted"] (spOtherwise K) := by
  refine F.ok scO (fun vs H Q E h => ?_) (fun cdv A outer s H vs Q E hr h => ?_)
  · obtain ⟨a, b, cells, wanted, rfl, _⟩ := h
    rfl
  · obtain ⟨a, b, cells, wanted, rfl, ha, hb, hl, hz, k⟩ := h
    refine ⟨_, pss_one (ps_ret (pe_lc (own := [("cell", 2)]) (g := gName 2) (by rfl) scO.nd
      (pi_range1 rfl B.range (pa_cons (pe_len K B (pv 0)) pa_nil))
      (blkOk_by (own := [("cell", 2)]) (N := ["cells", "wanted", "cell"]) (sc := defScope sOtherwise) (by decide +kernel))
      (fun _ _ _ _ _ => pg_name (i := 2) scO.nd rfl (Or.inl rfl))
      (fun _ _ _ _ _ => pts_one (pt_cmpR op_ne (pe_ixL K (pv 0) (pv 2)) (pe_ixL K (pv 1) (pv 2)) (nomark _)))
      (fun _ _ _ _ _ => pv 2))), ?_⟩
    refine ⟨_, rfl, a, _, rfl, .inl ha, _, rfl, by rw [nv_len]; omega, by rw [nv_len]; omega, fun D hD => ?_⟩
    rw [nv_len]
    refine lc_range0_of (fun i => if (cells.getD i 0 != wanted.getD i 0) = true then some (.int (i : Int)) else none) hD (by show cells.length ≤ 1000000; omega) (fun i H1 hi s1 Yes No hy hno => ?_) fun H1 s1 hD1 => ?_
    · have hi' : i < cells.length := hi
      refine ⟨rfl, _, rfl, _, rfl, a, _, _, _, rfl, rfl, s1.seq ha, atI_nat (nv_get hi'), _, rfl, _, rfl, b, _, _, _, rfl, rfl, s1.seq hb, atI_nat (nv_get (by omega)), rfl, _, rfl, ?_⟩
      rw [ne_nv]
      refine ite2 (fun c => ⟨_, rfl, hy _ _ (Same.refl _) (if_pos c)⟩) (fun c => hno _ (Same.refl _) (if_neg c))
    · refine k _ _ s1 hD ?_
      rw [hD1, picks_range]
      rfl
/-! ### sprayed -/
def spSprayed (K : PySem.W.Frag) : Sp := fun vs H Q _ => ∃ (a b : Addr) (cells st : List Nat) (c : Nat), vs = [.ref a, .ref b, .int (c : Int)] ∧ SqL K H a (nv cells) ∧ SqL K H b (nv st) ∧ cells.length ≤ 1000 ∧
  ∀ (H' : Hp) (p : Addr), Same H H' → H p = none → H' p = some (.lst (nv (spr cells st c))) → Q (.ref p) H'
theorem scSp : FnScope ["cells", "stencil", "colour", "cell"] ["cells", "stencil", "colour"] (defScope sSprayed) := ⟨rfl, rfl, rfl, by decide +kernel, rfl, by decide +kernel, by decide +kernel⟩
theorem ok_sprayed {f : Addr} {fd : FuncData} (F : Fun K "sprayed" "sprayed" sSprayed f fd) (B : Blt mg) : FnOk P w K mg base CX0 1 f fd ["cells", "stencil", "colour"] (spSprayed K) := by
  refine F.ok scSp (fun vs H Q E h => ?_) (fun cdv A outer s H vs Q E hr h => ?_)
  · obtain ⟨a, b, cells, st, c, rfl, _⟩ := h
    rfl
  · obtain ⟨a, b, cells, st, c, rfl, ha, hb, hz, k⟩ := h
    refine ⟨_, pss_one (ps_ret (pe_lc (own := [("cell", 3)]) (g := gName 3) (by rfl) scSp.nd
      (pi_range1 rfl B.range (pa_cons (pe_len K B (pv 0)) pa_nil))
      (blkOk_by (own := [("cell", 3)]) (N := ["cells", "stencil", "colour", "cell"]) (sc := defScope sSprayed) (by decide +kernel))
      (fun _ _ _ _ _ => pg_name (i := 3) scSp.nd rfl (Or.inl rfl))
      (fun _ _ _ _ _ => pts_nil)
      (fun _ _ _ _ _ => pe_ifExp (pt_in K (pv 3) (pv 1)) (pv 2) (pe_ixL K (pv 0) (pv 3))))), ?_⟩
    refine ⟨_, rfl, a, _, rfl, .inl ha, _, rfl, by rw [nv_len]; omega, by rw [nv_len]; omega, fun D hD => ?_⟩
    rw [nv_len]
    refine lc_range0_of (fun i => some (V.int (((if st.contains i = true then c else cells.getD i 0 : Nat)) : Int))) hD (by show cells.length ≤ 1000000; omega) (fun i H1 hi s1 Yes No hy hno => ?_) fun H1 s1 hD1 => ?_
    · have hi' : i < cells.length := hi
      refine ⟨rfl, ?_⟩
      refine yes_go ?_
      refine ⟨_, rfl, _, rfl, b, _, rfl, .inl (s1.seq hb), rfl, nv_flat st, _, rfl, ?_⟩
      rw [if_neg Bool.false_ne_true, inV_nv]
      refine ite2 (fun e => ⟨_, rfl, hy _ _ (Same.refl _) ?_⟩) (fun e => ⟨_, rfl, _, rfl, a, _, _, _, rfl, rfl, s1.seq ha, atI_nat (nv_get hi'), hy _ _ (Same.refl _) ?_⟩)
      · rw [if_pos e]
      · rw [if_neg e]
    · refine k _ _ s1 hD ?_
      have e := picks_all (List.range cells.length) (fun i => V.int (((if st.contains i = true then c else cells.getD i 0 : Nat)) : Int)) (fun i => some (V.int (((if st.contains i = true then c else cells.getD i 0 : Nat)) : Int))) fun i x hx => by
        have := List.getElem?_eq_some_iff.mp hx
        obtain ⟨h1, h2⟩ := this
        rw [List.getElem_range] at h2
        rw [h2]
      rw [List.length_range] at e
      rw [hD1]
      show some (HO.lst ((List.range cells.length).filterMap _)) = _
      rw [e]
      unfold spr nv
      rw [List.map_map]
      rfl
/-! ### with_length -/
def spWithLen : Sp := fun vs H Q _ => ∃ (a : Addr) (l : List V), vs = [.ref a] ∧ H a = some (.lst l) ∧ l.length ≤ 10000000 ∧
  ∀ (H' : Hp) (p : Addr), Same H H' → H p = none → H' p = some (.lst (.int (l.length : Nat) :: l)) → Q (.ref p) H'
theorem scWL : FnScope ["numbers"] ["numbers"] (defScope sWithLen) := ⟨rfl, rfl, rfl, by decide +kernel, rfl, by decide +kernel, by decide +kernel⟩
theorem ok_with_length {f : Addr} {fd : FuncData} (F : Fun K "with_length" "with_length" sWithLen f fd) (B : Blt mg) : FnOk P w K mg base CX0 1 f fd ["numbers"] spWithLen := by
  refine F.ok scWL (fun vs H Q E h => ?_) (fun cdv A outer s H vs Q E hr h => ?_)
  · obtain ⟨a, l, rfl, _⟩ := h
    rfl
  · obtain ⟨a, l, rfl, ha, hz, k⟩ := h
    refine ⟨_, pss_one (ps_ret (pe_op op_cat (pe_lst (pa_cons (pe_len K B (pv 0)) pa_nil)) (pv 0))), ?_⟩
    refine ⟨_, rfl, a, _, rfl, .inl (SqL.of ha), line_of (by show 1 ≤ 16777216; decide), fun p hp => ⟨_, rfl, p, a, _, l, rfl, rfl, upd_same, ?_, ?_, fun q hq => ?_⟩⟩
    · rw [upd_ne (ne_of_none ha hp)]
      exact ha
    · exact line_of (by show 1 + l.length ≤ 16777216; omega)
    · have hq0 : H q = none := (same_one hp).free hq
      exact k _ _ (same_new (same_one hp) hq) hq0 upd_same
/-! ### is_colour -/
def isCol (n : Nat) : Bool := decide (1 ≤ n ∧ n ≤ 5)
def spIsColour : Sp := fun vs H Q _ => ∃ n : Nat, vs = [.int (n : Int)] ∧ Q (.bl (isCol n)) H
theorem scIC : FnScope ["number"] ["number"] (defScope sIsColour) := ⟨rfl, rfl, rfl, by decide +kernel, rfl, by decide +kernel, by decide +kernel⟩
theorem ok_is_colour {f : Addr} {fd : FuncData} (F : Fun K "is_colour" "is_colour" sIsColour f fd) (N5 : Num mg "MOST_COLOURS" 5) : FnOk P w K mg base CX0 1 f fd ["number"] spIsColour := by
  refine F.ok scIC (fun vs H Q E h => ?_) (fun cdv A outer s H vs Q E hr h => ?_)
  · obtain ⟨n, rfl, _⟩ := h
    rfl
  · obtain ⟨n, rfl, k⟩ := h
    refine ⟨_, pss_one (ps_ret (pe_chain op_le op_le pe_int (pv 0) (pe_num N5))), ?_⟩
    refine ⟨_, rfl, _, _, rfl, rfl, _, rfl, ?_⟩
    refine ite2 (fun e => ⟨_, _, rfl, rfl, ?_⟩) (fun e => ?_)
    · have e' : (1 : Int) ≤ (n : Int) := of_decide_eq_true e
      have z : isCol n = decide ((n : Int) ≤ 5) := decide_eq_decide.mpr (by omega)
      show Q (.bl (decide ((n : Int) ≤ 5))) H
      rw [← z]
      exact k
    · have e' : ¬ (1 : Int) ≤ (n : Int) := fun q => e (decide_eq_true q)
      have z : isCol n = false := decide_eq_false (by omega)
      show Q (.bl false) H
      rw [← z]
      exact k
end
end SW

namespace SW
open PySem PySem.Spec PyProof.Rows L2
/-! ### a surface in the heap -/
def sf (r c : Nat) (cl wa st : Addr) (sp : Nat) : List (Str × V) := [("many_rows", .int (r : Int)), ("many_columns", .int (c : Int)), ("cells", .ref cl), ("wanted", .ref wa), ("stencils", .ref st), ("sprays", .int (sp : Int))]
theorem e_cr : (("cells" : Str) == "many_rows") = false := by decide +kernel
theorem e_cc : (("cells" : Str) == "many_columns") = false := by decide +kernel
theorem e_wr : (("wanted" : Str) == "many_rows") = false := by decide +kernel
theorem e_wc : (("wanted" : Str) == "many_columns") = false := by decide +kernel
theorem e_wl : (("wanted" : Str) == "cells") = false := by decide +kernel
theorem e_tr : (("stencils" : Str) == "many_rows") = false := by decide +kernel
theorem e_tc : (("stencils" : Str) == "many_columns") = false := by decide +kernel
theorem e_tl : (("stencils" : Str) == "cells") = false := by decide +kernel
theorem e_tw : (("stencils" : Str) == "wanted") = false := by decide +kernel
theorem e_sr : (("sprays" : Str) == "many_rows") = false := by decide +kernel
theorem e_sc : (("sprays" : Str) == "many_columns") = false := by decide +kernel
theorem e_sl : (("sprays" : Str) == "cells") = false := by decide +kernel
theorem e_sw : (("sprays" : Str) == "wanted") = false := by decide +kernel
theorem e_st : (("sprays" : Str) == "stencils") = false := by decide +kernel
theorem e_kr : (("many_columns" : Str) == "many_rows") = false := by decide +kernel
section
variable (r c : Nat) (cl wa st : Addr) (sp : Nat)
theorem sf_rows : (sf r c cl wa st sp).lookup ("many_rows" : Str) = some (.int (r : Int)) := by simp [sf, List.lookup]
theorem sf_cols : (sf r c cl wa st sp).lookup ("many_columns" : Str) = some (.int (c : Int)) := by simp [sf, List.lookup, e_kr]
theorem sf_cells : (sf r c cl wa st sp).lookup ("cells" : Str) = some (.ref cl) := by simp [sf, List.lookup, e_cr, e_cc]
theorem sf_wanted : (sf r c cl wa st sp).lookup ("wanted" : Str) = some (.ref wa) := by simp [sf, List.lookup, e_wr, e_wc, e_wl]
theorem sf_sten : (sf r c cl wa st sp).lookup ("stencils" : Str) = some (.ref st) := by simp [sf, List.lookup, e_tr, e_tc, e_tl, e_tw]
theorem sf_sprays : (sf r c cl wa st sp).lookup ("sprays" : Str) = some (.int (sp : Int)) := by simp [sf, List.lookup, e_sr, e_sc, e_sl, e_sw, e_st]
theorem ne_of_beq {a b : Str} (h : (a == b) = false) : ¬ b = a := fun e => by subst e; simp at h
theorem sf_put_cells (cl' : Addr) : putF "cells" (.ref cl') (sf r c cl wa st sp) = sf r c cl' wa st sp := by
  unfold sf
  simp only [putF]
  rw [if_neg (ne_of_beq e_cr), if_neg (ne_of_beq e_cc), if_pos True.intro]
theorem sf_put_wanted (wa' : Addr) : putF "wanted" (.ref wa') (sf r c cl wa st sp) = sf r c cl wa' st sp := by
  unfold sf
  simp only [putF]
  rw [if_neg (ne_of_beq e_wr), if_neg (ne_of_beq e_wc), if_neg (ne_of_beq e_wl), if_pos True.intro]
theorem sf_put_sprays : putF "sprays" (.int ((sp : Int) + 1)) (sf r c cl wa st sp) = sf r c cl wa st (sp + 1) := by
  have e : ((sp + 1 : Nat) : Int) = (sp : Int) + 1 := by omega
  unfold sf
  rw [e]
  simp only [putF]
  rw [if_neg (ne_of_beq e_sr), if_neg (ne_of_beq e_sc), if_neg (ne_of_beq e_sl), if_neg (ne_of_beq e_sw), if_neg (ne_of_beq e_st), if_pos True.intro]
theorem sf_len : (sf r c cl wa st sp).length = 6 := rfl
end
def StenAt (H : Hp) (a : Addr) (l : List Nat) : Prop := H a = some (.lst (nv l))
structure SurfAt (CS : Addr) (H : Hp) (p : Addr) (s : Sy76.St) (dx c w t : Addr) (ts : List Addr) : Prop where
  obj : H p = some (.ins CS dx (sf s.rows s.cols c w t s.done))
  cells : H c = some (.lst (nv s.wall))
  wanted : H w = some (.lst (nv s.picture))
  sten : H t = some (.lst (ts.map V.ref))
  each : Paired (StenAt H) ts s.stencils
def Surf (CS : Addr) (H : Hp) (p : Addr) (s : Sy76.St) : Prop := ∃ dx c w t ts, SurfAt CS H p s dx c w t ts
theorem SurfAt.same {CS : Addr} {H H' : Hp} {p : Addr} {s : Sy76.St} {dx c w t : Addr} {ts : List Addr} (e : Same H H') (h : SurfAt CS H p s dx c w t ts) : SurfAt CS H' p s dx c w t ts :=
  ⟨e _ _ h.obj, e _ _ h.cells, e _ _ h.wanted, e _ _ h.sten, paired_imp (fun _ _ q => e _ _ q) h.each⟩
theorem Surf.same {CS : Addr} {H H' : Hp} {p : Addr} {s : Sy76.St} (e : Same H H') (h : Surf CS H p s) : Surf CS H' p s := by
  obtain ⟨dx, c, w, t, ts, h⟩ := h
  exact ⟨dx, c, w, t, ts, h.same e⟩
theorem WF.size {s : Sy76.St} (h : WF s) : s.rows * s.cols ≤ 25 := Nat.mul_le_mul h.r5 h.c5
theorem WF.wall25 {s : Sy76.St} (h : WF s) : s.wall.length ≤ 25 := by rw [h.wall]; exact h.size
theorem WF.pic25 {s : Sy76.St} (h : WF s) : s.picture.length ≤ 25 := by rw [h.pic]; exact h.size
theorem open_get {s : Sy76.St} {k : Nat} (h : k < s.stencils.length) : s.stencils[k]? = some (Sy76.open_ s k) := by
  unfold Sy76.open_
  rw [List.getD_eq_getElem?_getD, List.getElem?_eq_getElem h]
  rfl
theorem open_mem {s : Sy76.St} {k : Nat} (h : k < s.stencils.length) : Sy76.open_ s k ∈ s.stencils := List.mem_of_getElem? (open_get h)
theorem SurfAt.open_ {CS : Addr} {H : Hp} {p : Addr} {s : Sy76.St} {dx c w t : Addr} {ts : List Addr} (h : SurfAt CS H p s dx c w t ts) {k : Nat} (hk : k < s.stencils.length) :
    ∃ a, (ts.map V.ref)[k]? = some (V.ref a) ∧ H a = some (.lst (nv (Sy76.open_ s k))) := by
  obtain ⟨a, h1, h2⟩ := paired_get h.each (open_get hk)
  exact ⟨a, by rw [List.getElem?_map, h1]; rfl, h2⟩
theorem SurfAt.len {CS : Addr} {H : Hp} {p : Addr} {s : Sy76.St} {dx c w t : Addr} {ts : List Addr} (h : SurfAt CS H p s dx c w t ts) : (ts.map V.ref).length = s.stencils.length := by
  rw [List.length_map]
  exact paired_len h.each

section
variable {P : Program} {w : World} {K : PySem.W.Frag} {mg : Str → Option Value} {base : Heap} {CS : Addr}
/-! ### many_wrong -/
def spManyWrong (CS : Addr) : Sp := fun vs H Q _ => ∃ (p : Addr) (s : Sy76.St), vs = [.ref p] ∧ Surf CS H p s ∧ s.wall.length ≤ s.picture.length ∧ s.wall.length ≤ 1000 ∧
  ∀ H' : Hp, Same H H' → Q (.int ((Sy76.wrong s s.wall).length : Nat)) H'
theorem scMW : FnScope ["surface"] ["surface"] (defScope sManyWrong) := ⟨rfl, rfl, rfl, by decide +kernel, rfl, by decide +kernel, by decide +kernel⟩
theorem ok_many_wrong {f fO : Addr} {fd fdO : FuncData} (F : Fun K "many_wrong" "many_wrong" sManyWrong f fd) (B : Blt mg) (S : SurfC K CS) (O : Fn P w K mg base CX0 1 "otherwise" fO fdO ["cells", "wanted"] (spOtherwise K)) :
    FnOk P w K mg base CX0 2 f fd ["surface"] (spManyWrong CS) := by
  refine F.ok scMW (fun vs H Q E h => ?_) (fun cdv A outer s H vs Q E hr h => ?_)
  · obtain ⟨p, s, rfl, _⟩ := h
    rfl
  · obtain ⟨p, s, rfl, ⟨dx, c, w, t, ts, hs⟩, hl, hz, k⟩ := h
    refine ⟨_, pss_one (ps_ret (pe_len K B (pe_fn O hr (pa_cons (pe_fldK K (pv 0)) (pa_cons (pe_fldK K (pv 0)) pa_nil))))), ?_⟩
    refine ⟨_, rfl, p, CS, dx, _, _, rfl, hs.obj, S.cl, S.nCe, sf_cells .., _, rfl, p, CS, dx, _, _, rfl, hs.obj, S.cl, S.nW, sf_wanted .., ?_⟩
    refine ⟨c, w, s.wall, s.picture, rfl, SqL.of hs.cells, SqL.of hs.wanted, hl, hz, fun H1 q s1 hq hq1 => ?_⟩
    refine ⟨q, _, rfl, .inl (SqL.of hq1), ?_⟩
    rw [nv_len]
    exact k H1 s1
/-! ### all_stencils -/
def spAllSt (CS : Addr) : Sp := fun vs H Q _ => ∃ (p : Addr) (s : Sy76.St), vs = [.ref p] ∧ Surf CS H p s ∧ s.stencils.length ≤ 1000 ∧
  ∀ (H' : Hp) (a : Addr), Same H H' → H a = none → H' a = some (.lst (nv (List.range s.stencils.length))) → Q (.ref a) H'
theorem scAS : FnScope ["surface"] ["surface"] (defScope sAllSt) := ⟨rfl, rfl, rfl, by decide +kernel, rfl, by decide +kernel, by decide +kernel⟩
theorem rg_nv (n : Nat) : rgV 0 (n : Int) = nv (List.range n) := by
  unfold rgV nv
  have e : ((n : Int) - 0).toNat = n := by omega
  rw [e]
  refine List.map_congr_left fun i _ => ?_
  rw [Int.zero_add]
theorem ok_all_stencils {f : Addr} {fd : FuncData} (F : Fun K "all_stencils" "all_stencils" sAllSt f fd) (B : Blt mg) (S : SurfC K CS) : FnOk P w K mg base CX0 1 f fd ["surface"] (spAllSt CS) := by
  refine F.ok scAS (fun vs H Q E h => ?_) (fun cdv A outer s H vs Q E hr h => ?_)
  · obtain ⟨p, s, rfl, _⟩ := h
    rfl
  · obtain ⟨p, s, rfl, ⟨dx, c, w, t, ts, hs⟩, hz, k⟩ := h
    refine ⟨_, pss_one (ps_ret (pe_listRg rfl (by rfl) B.list (prg_1 (by rfl) B.range (pe_len K B (pe_fldK K (pv 0)))))), ?_⟩
    refine ⟨_, rfl, p, CS, dx, _, _, rfl, hs.obj, S.cl, S.nSt, sf_sten .., t, _, rfl, .inl (SqL.of hs.sten), _, rfl, ?_⟩
    rw [hs.len]
    refine ⟨RgOk.of_le (Int.le_refl _) (by omega) (by omega) (by omega), fun q hq => ?_⟩
    rw [rg_nv]
    exact k _ q (same_one hq) hq upd_same
end
end SW

namespace SW
open PySem PySem.Spec PyProof.Rows L2
open Sy76 (open_ last)
/-! ### data of numbers -/
theorem dpAll_nv {K : PySem.W.Frag} {H : Hp} : ∀ l : List Nat, DpAll K H (nv l) (l.map fun (n : Nat) => PyData.int (n : Int))
  | [] => .nil
  | n :: l => .cons (.int _) (dpAll_nv l)
theorem lay_ints : ∀ l : List Nat, PyData.canLayAll0 (l.map fun (n : Nat) => PyData.int (n : Int)) = true
  | [] => by simp [PyData.canLayAll0]
  | n :: l => by
    rw [List.map_cons, PyData.canLayAll0, lay_ints l]
    simp [PyData.canLay0]
theorem deep_ints : ∀ l : List Nat, PyData.depthAll (l.map fun (n : Nat) => PyData.int (n : Int)) = 0
  | [] => by simp [PyData.depthAll]
  | n :: l => by
    rw [List.map_cons, PyData.depthAll, deep_ints l]
    simp [PyData.depth]
theorem shaped_ints (l : List Nat) : SeqAt.shaped (.list (l.map fun (n : Nat) => PyData.int (n : Int))) = true := by
  unfold SeqAt.shaped
  rw [PyData.canLay0, lay_ints, PyData.depth, deep_ints]
  decide
theorem shaped_nil : SeqAt.shaped (.list []) = true := shaped_ints []
theorem eqv_nil (xs : List PyData) : PyData.eqv (.list xs) (.list []) = xs.isEmpty := by
  rw [PyData.eqv]
  cases xs <;> simp [PyData.eqvAll]
/-! ### seen_colour, in plain words -/
def colsOf (s : Sy76.St) (k : Nat) (hid : List Nat) : List Nat := ((open_ s k).filter fun (i : Nat) => !hid.contains i).map fun i => s.picture.getD i 0
theorem last_cols (s : Sy76.St) (k : Nat) (hid : List Nat) : last s k hid = match colsOf s k hid with
    | [] => none
    | c :: r => if c ≠ 0 ∧ r.all (fun x => x == c) = true then some c else none := by
  unfold last colsOf
  cases (open_ s k).filter fun (i : Nat) => !hid.contains i with
  | nil => rfl
  | cons i l =>
    show (if s.picture.getD i 0 ≠ 0 ∧ (l.all fun j => s.picture.getD j 0 == s.picture.getD i 0) = true then some (s.picture.getD i 0) else none) =
      if s.picture.getD i 0 ≠ 0 ∧ ((l.map fun i => s.picture.getD i 0).all fun x => x == s.picture.getD i 0) = true then some (s.picture.getD i 0) else none
    rw [List.all_map]
    rfl
def oc : Option Nat → V
  | none => .non
  | some c => .int (c : Int)
section
variable {P : Program} {w : World} {K : PySem.W.Frag} {mg : Str → Option Value} {base : Heap} {CS : Addr}
def spSeen (K : PySem.W.Frag) (CS : Addr) : Sp := fun vs H Q _ => ∃ (p h : Addr) (s : Sy76.St) (k : Nat) (hid : List Nat), vs = [.ref p, .int (k : Int), .ref h] ∧ Surf CS H p s ∧ WF s ∧ k < s.stencils.length ∧ SqL K H h (nv hid) ∧
  ∀ H' : Hp, Same H H' → Q (oc (last s k hid)) H'
theorem scSe : FnScope ["surface", "stencil", "hidden", "colours", "cell", "colour"] ["surface", "stencil", "hidden"] (defScope sSeen) := ⟨rfl, rfl, rfl, by decide +kernel, rfl, by decide +kernel, by decide +kernel⟩
theorem ok_seen {f : Addr} {fd : FuncData} (F : Fun K "seen_colour" "seen_colour" sSeen f fd) (B : Blt mg) (N0 : Num mg "BARE" 0) (S : SurfC K CS) : FnOk P w K mg base CX0 1 f fd ["surface", "stencil", "hidden"] (spSeen K CS) := by
  refine F.ok scSe (fun vs H Q E h => ?_) (fun cdv A outer s H vs Q E hr h => ?_)
  · obtain ⟨p, h, s, k, hid, rfl, _⟩ := h
    rfl
  · obtain ⟨p, h, s, k, hid, rfl, ⟨dx, c, w, t, ts, hs⟩, wf, hk, hh, q⟩ := h
    refine ⟨_, pss_cons (ps_set (i := 3) scSe.nd rfl (Or.inr rfl) (pe_lc (own := [("cell", 4)]) (g := gName 4) (by rfl) scSe.nd
        (pi_listK K (pe_ixL K (pe_fldK K (pv 0)) (pv 1)))
        (blkOk_by (own := [("cell", 4)]) (N := ["surface", "stencil", "hidden", "colours", "cell", "colour"]) (sc := defScope sSeen) (by decide +kernel))
        (fun _ _ _ _ _ => pg_name (i := 4) scSe.nd rfl (Or.inl rfl))
        (fun _ _ _ _ _ => pts_one (pt_notIn K (pv 4) (pv 2)))
        (fun _ _ _ _ _ => pe_ixL K (pe_fldK K (pv 0)) (pv 4))))
      (pss_cons (ps_if (PW.pt (pw_or (pt_cmpR (op_eqD hr.units) (pv 3) (pe_lst pa_nil) (nomark _)) (pw_or (pt_cmpR op_eq (pe_ixL K (pv 3) pe_int) (pe_num N0) (nomark _))
          (pw_or1 (pt_val (pe_any K B rfl (pe_lc (own := [("colour", 5)]) (g := gName 5) (by rfl) scSe.nd
            (pi_listK K (pv 3))
            (blkOk_by (own := [("colour", 5)]) (N := ["surface", "stencil", "hidden", "colours", "cell", "colour"]) (sc := defScope sSeen) (by decide +kernel))
            (fun _ _ _ _ _ => pg_name (i := 5) scSe.nd rfl (Or.inl rfl))
            (fun _ _ _ _ _ => pts_nil)
            (fun _ _ _ _ _ => pe_cmpR op_ne (pv 5) (pe_ixL K (pv 3) pe_int) (nomark _))))))))) (pss_one (ps_ret pe_non)) pss_nil)
      (pss_one (ps_ret (pe_ixL K (pv 3) pe_int)))), ?_⟩
    obtain ⟨a, ga, ha⟩ := hs.open_ hk
    have hlen : (open_ s k).length ≤ 60 := wf.few _ (open_mem hk)
    -- colours
    refine ⟨_, rfl, p, CS, dx, _, _, rfl, hs.obj, S.cl, S.nSt, sf_sten .., _, rfl, t, _, _, _, rfl, rfl, SqL.of hs.sten, atI_nat ga, a, rfl, ⟨_, SqL.of ha⟩, fun D hD => ?_⟩
    refine lc_list_of (xs := nv (open_ s k)) (fun i => if (!hid.contains ((open_ s k).getD i 0)) = true then some (.int ((s.picture.getD ((open_ s k).getD i 0) 0 : Nat) : Int)) else none) hD (SqL.of ha) (by rw [nv_len]; omega)
      (fun i x H1 hx s1 Yes No hy hno => ?_) fun H1 s1 hD1 => ?_
    · obtain ⟨hi, rfl⟩ := nv_of hx
      have hin : (open_ s k).getD i 0 < s.picture.length := by
        rw [wf.pic]
        refine wf.inside _ (open_mem hk) _ ?_
        rw [List.getD_eq_getElem?_getD, List.getElem?_eq_getElem hi]
        exact List.getElem_mem hi
      refine ⟨rfl, _, rfl, _, rfl, h, _, rfl, .inl (s1.seq hh), rfl, nv_flat hid, _, rfl, ?_⟩
      rw [if_pos rfl, inV_nv]
      refine ite2 (fun e => ⟨_, rfl, p, CS, dx, _, _, rfl, s1 _ _ hs.obj, S.cl, S.nW, sf_wanted .., _, rfl, w, _, _, _, rfl, rfl, SqL.of (s1 _ _ hs.wanted), atI_nat (nv_get hin), hy _ _ (Same.refl _) (if_pos e)⟩) (fun e => hno _ (Same.refl _) (if_neg e))
    · rw [nv_len, picks_filter (open_ s k) (fun i => !hid.contains i) (fun i => V.int ((s.picture.getD i 0 : Nat) : Int)) _ (fun i x hx => by rw [List.getD_eq_getElem?_getD, hx]; rfl)] at hD1
      have hD2 : H1 D = some (.lst (nv (colsOf s k hid))) := by
        rw [hD1]
        unfold colsOf nv
        rw [List.map_map]
        rfl
      clear hD1
      have lc := last_cols s k hid
      -- if colours == [] ..
      refine ⟨_, rfl, Nat.zero_le _, fun e he => ?_⟩
      have s2 : Same H1 (upd H1 e (.lst [])) := same_one he
      have hD3 := s2 _ _ hD2
      refine ⟨_, _, Dp.lst (SqL.of hD3) (dpAll_nv _), Dp.lst (SqL.of upd_same) .nil, shaped_ints _, shaped_nil, _, rfl, ?_⟩
      rw [eqv_nil]
      cases ec : colsOf s k hid with
      | nil =>
        rw [ec] at lc
        have : last s k hid = none := lc
        refine iteT ?_
        refine iteT ?_
        show Q .non _
        have z := q _ (s1.trans s2)
        rw [this] at z
        exact z
      | cons c0 r =>
        rw [ec] at lc hD3
        have lc' : last s k hid = if c0 ≠ 0 ∧ r.all (fun x => x == c0) = true then some c0 else none := lc
        refine iteF ?_
        have g0 : atI (nv (c0 :: r)) ((0 : Nat) : Int) = some (V.int (c0 : Int)) := atI_nat rfl
        refine ⟨_, rfl, _, _, _, _, rfl, rfl, SqL.of hD3, g0, rfl, _, rfl, ?_⟩
        by_cases z0 : c0 = 0
        · have e0 : decide (V.int (c0 : Int) = V.int 0) = true := decide_eq_true (by rw [z0]; rfl)
          rw [e0]
          refine iteT ?_
          refine iteT ?_
          show Q .non _
          have z := q _ (s1.trans s2)
          rw [lc', if_neg (by simp [z0])] at z
          exact z
        · have e0 : decide (V.int (c0 : Int) = V.int 0) = false := decide_eq_false (fun z => z0 (by injection z with z; omega))
          rw [e0]
          refine iteF ?_
          refine ⟨_, rfl, D, rfl, ⟨_, SqL.of hD3⟩, fun D2 hD2' => ?_⟩
          refine lc_list_of (xs := nv (c0 :: r)) (fun i => some (.bl ((c0 :: r).getD i 0 != c0))) hD2' (SqL.of hD3) ?_ (fun i x H2 hx s3 Yes No hy hno => ?_) fun H2 s3 hD4 => ?_
          · rw [nv_len, ← ec]
            unfold colsOf
            rw [List.length_map]
            have := List.length_filter_le (fun (i : Nat) => !hid.contains i) (open_ s k)
            omega
          · obtain ⟨hi, rfl⟩ := nv_of hx
            refine ⟨rfl, yes_go ?_⟩
            refine ⟨_, rfl, _, rfl, _, _, _, _, rfl, rfl, SqL.of (s3 _ _ hD3), g0, rfl, ?_⟩
            rw [ne_nv]
            exact hy _ _ (Same.refl _) rfl
          · have e5 : H2 D2 = some (.lst (((c0 :: r).map fun x => x != c0).map V.bl)) := by
              rw [hD4, nv_len, picks_all (c0 :: r) (fun x => V.bl (x != c0)) _ (fun i x hx => by rw [List.getD_eq_getElem?_getD, hx]; rfl), List.map_map]
              rfl
            refine ⟨D2, _, rfl, SqL.of e5, _, rfl, ?_⟩
            have e6 : (((c0 :: r).map fun x => x != c0).any id) = !(r.all fun x => x == c0) := by
              rw [List.any_map, List.any_cons, Bool.eq_iff_iff]
              simp
            rw [e6]
            by_cases za : (r.all fun x => x == c0) = true
            · rw [za]
              refine iteF ?_
              refine ⟨_, rfl, _, _, _, _, rfl, rfl, SqL.of (s3 _ _ hD3), g0, ?_⟩
              have z := q _ ((s1.trans s2).trans s3)
              rw [lc', if_pos ⟨z0, za⟩] at z
              exact z
            · have za' : (r.all fun x => x == c0) = false := by simpa using za
              rw [za']
              refine iteT ?_
              show Q .non _
              have z := q _ ((s1.trans s2).trans s3)
              rw [lc', if_neg (fun y => za y.2)] at z
              exact z
end
end SW

namespace SW
open PySem PySem.Spec PyProof.Rows L2
open Sy76 (open_ last)
section
variable {P : Program} {w : World} {K : PySem.W.Frag} {mg : Str → Option Value} {base : Heap} {CS : Addr}
def spPlanBy (K : PySem.W.Frag) (CS : Addr) : Sp := fun vs H Q _ => ∃ (p o : Addr) (s : Sy76.St) (order : List Nat), vs = [.ref p, .ref o] ∧ Surf CS H p s ∧ WF s ∧ (∀ k ∈ order, k < s.stencils.length) ∧ order.length ≤ 1000 ∧ SqL K H o (nv order) ∧
  (∀ H' : Hp, Same H H' → planBy s order = none → Q .non H') ∧ ∀ (H' : Hp) (a : Addr) (pl : Row), Same H H' → H a = none → planBy s order = some pl → PlanAt H' a pl → Q (.ref a) H'
abbrev nPB : List Str := ["surface", "order", "hidden", "plan", "stencil", "colour", "left", "cell"]
theorem scPB : FnScope nPB ["surface", "order"] (defScope sPlanBy) := ⟨rfl, rfl, rfl, by decide +kernel, rfl, by decide +kernel, by decide +kernel⟩
theorem getD_of {l : List Nat} {i x : Nat} (h : l[i]? = some x) : l.getD i 0 = x := by
  rw [List.getD_eq_getElem?_getD, h]
  rfl
theorem nv_rev (l : List Nat) : (nv l).reverse = nv l.reverse := by
  unfold nv
  rw [List.map_reverse]
theorem drop_get {α : Type} {l : List α} {i : Nat} {x : α} (h : l[i]? = some x) : l.drop i = x :: l.drop (i + 1) := by
  obtain ⟨h1, h2⟩ := List.getElem?_eq_some_iff.mp h
  rw [List.drop_eq_getElem_cons h1, h2]
theorem ok_plan_by {f fS : Addr} {fd fdS : FuncData} (F : Fun K "plan_by" "plan_by" sPlanBy f fd) (B : Blt mg) (S : SurfC K CS) (G : Fn P w K mg base CX0 1 "seen_colour" fS fdS ["surface", "stencil", "hidden"] (spSeen K CS)) :
    FnOk P w K mg base CX0 2 f fd ["surface", "order"] (spPlanBy K CS) := by
  refine F.ok scPB (fun vs H Q E h => ?_) (fun cdv A outer s H vs Q E hr h => ?_)
  · obtain ⟨p, o, s, order, rfl, _⟩ := h
    rfl
  · obtain ⟨p, o, s, order, rfl, hsf, wf, hin, hol, ho, kN, kS⟩ := h
    refine ⟨_, pss_cons (ps_set (i := 2) scPB.nd rfl (Or.inr rfl) (pe_lst pa_nil)) (pss_cons (ps_set (i := 3) scPB.nd rfl (Or.inl rfl) (pe_lst pa_nil))
      (pss_cons (ps_for PassesOwn.never rfl (pi_listK K (pe_revL (pv 1))) (pg_name (i := 4) scPB.nd rfl (Or.inl rfl))
        (pss_cons (ps_set (i := 5) scPB.nd rfl (Or.inl rfl) (pe_fn G hr (pa_cons (pv 0) (pa_cons (pv 4) (pa_cons (pv 2) pa_nil)))))
        (pss_cons (ps_if (pt_cmpR op_isN (pv 5) pe_non (nomark _)) (pss_one (ps_ret pe_non)) pss_nil)
        (pss_cons (ps_set (i := 3) scPB.nd rfl (Or.inl rfl) (pe_op op_cat (pe_lst (pa_cons (pe_tup (pa_cons (pv 4) (pa_cons (pv 5) pa_nil))) pa_nil)) (pv 3)))
        (pss_one (ps_set (i := 2) scPB.nd rfl (Or.inr rfl) (pe_op op_cat (pv 2) (pe_ixL K (pe_fldK K (pv 0)) (pv 4)))))))))
      (pss_cons (ps_setLc (i := 6) (own := [("cell", 7)]) (g := gName 7) (by rfl) scPB.nd rfl rfl (sw_true rfl rfl rfl (by decide +kernel))
        (pi_range1 rfl B.range (pa_cons (pe_len K B (pe_fldK K (pv 0))) pa_nil))
        (blkOk_by (own := [("cell", 7)]) (N := nPB) (sc := defScope sPlanBy) (by decide +kernel))
        (fun _ _ _ _ _ => pg_name (i := 7) scPB.nd rfl (Or.inl rfl))
        (fun _ _ _ _ _ => pts_one (pt_notIn K (pv 7) (pv 2)))
        (fun _ _ _ _ _ => pv 7))
      (pss_cons (ps_if (pt_val (pe_any K B rfl (pe_lc (own := [("cell", 7)]) (g := gName 7) (by rfl) scPB.nd
            (pi_listK K (pv 6))
            (blkOk_by (own := [("cell", 7)]) (N := nPB) (sc := defScope sPlanBy) (by decide +kernel))
            (fun _ _ _ _ _ => pg_name (i := 7) scPB.nd rfl (Or.inl rfl))
            (fun _ _ _ _ _ => pts_nil)
            (fun _ _ _ _ _ => pe_cmpR op_ne (pe_ixL K (pe_fldK K (pv 0)) (pv 7)) (pe_ixL K (pe_fldK K (pv 0)) (pv 7)) (nomark _))))) (pss_one (ps_ret pe_non)) pss_nil)
      (pss_one (ps_ret (pv 3))))))), ?_⟩
    refine ⟨Nat.zero_le _, fun h0 hh0 => ⟨Nat.zero_le _, fun p0 hp0 => ?_⟩⟩
    have sA : Same H (upd H h0 (.lst [])) := same_one hh0
    have sB := sA.trans (same_one (o := .lst []) hp0)
    have nA : H p0 = none := sA.free hp0
    refine ⟨_, rfl, o, _, rfl, sB.seq ho, fun R hR => ⟨R, rfl, ⟨_, SqL.of upd_same⟩, ?_⟩⟩
    have sC := sB.trans (same_one (o := .lst (nv order).reverse) hR)
    have sR : Same (upd (upd H h0 (.lst [])) p0 (.lst [])) (upd (upd (upd H h0 (.lst [])) p0 (.lst [])) R (.lst (nv order).reverse)) := same_one hR
    -- the invariant: behind i turns the rest of the way is the way from what is hidden and planned
    refine for_list (K := K) (a := R) (xs := nv order.reverse) (fun i σ H' => ∃ (hA pA : Addr) (hid : List Nat) (pl : Row) (v4 v5 : Option V), σ = [some (.ref p), some (.ref o), some (.ref hA), some (.ref pA), v4, v5, none, none] ∧
        Same H H' ∧ H' R = some (.lst (nv order.reverse)) ∧ SqL K H' hA (nv hid) ∧ H' hA = some (.lst (nv hid)) ∧ hid.length ≤ 60 * i ∧ H pA = none ∧ PlanAt H' pA pl ∧ pl.length = i ∧ goBack s order.reverse [] [] = goBack s (order.reverse.drop i) hid pl)
      ⟨h0, p0, [], [], none, none, rfl, sC, by rw [upd_same, nv_rev], ?_, ?_, Nat.zero_le _, nA, ⟨[], ?_, .nil⟩, rfl, rfl⟩ (fun i σ H' _ ⟨_, _, _, _, _, _, _, _, r, _⟩ => SqL.of r) ?_ ?_
    · exact SqL.of (sR _ _ ((same_one (o := .lst []) hp0) _ _ upd_same))
    · exact sR _ _ ((same_one (o := .lst []) hp0) _ _ upd_same)
    · exact sR _ _ upd_same
    · rintro i x σ H' hx ⟨hA, pA, hid, pl, v4, v5, rfl, s1, hR1, _, hA1, hz, npA, hpl, hli, way⟩
      obtain ⟨hi, rfl⟩ := nv_of hx
      have gi : order.reverse[i]? = some (order.reverse.getD i 0) := by rw [List.getD_eq_getElem?_getD, List.getElem?_eq_getElem hi]; rfl
      generalize order.reverse.getD i 0 = k at gi ⊢
      have hi5 : i < 1000 := by rw [List.length_reverse] at hi; omega
      have hk : k < s.stencils.length := hin k (List.mem_reverse.mp (List.mem_of_getElem? gi))
      rw [drop_get gi, goBack] at way
      refine ⟨_, rfl, _, rfl, _, rfl, p, hA, s, k, hid, rfl, hsf.same s1, wf, hk, SqL.of hA1, fun H1 s2 => ?_⟩
      refine ⟨_, rfl, rfl, _, rfl, ?_⟩
      cases el : last s k hid with
      | none =>
        rw [el] at way
        refine iteT ?_
        refine kN _ (s1.trans s2) ?_
        unfold planBy
        rw [way]
      | some c =>
        rw [el] at way
        refine iteF ?_
        have s12 := s1.trans s2
        obtain ⟨dx, ca, wa, ta, ts, hs⟩ := hsf.same s12
        obtain ⟨a, ga, ha⟩ := hs.open_ hk
        obtain ⟨ps, hp1, hp2⟩ := hpl.same s2
        -- plan = [(stencil, colour)] + plan
        refine ⟨_, rfl, _, rfl, line_of (by show 2 ≤ 16777216; decide), fun tt ht => ⟨line_of (by show 1 ≤ 16777216; decide), fun l1 hl1 => ⟨_, rfl, l1, pA, _, ps.map V.ref, rfl, rfl, upd_same, ?_, ?_, fun l2 hl2 => ?_⟩⟩⟩
        · exact (same_one hl1) _ _ ((same_one ht) _ _ hp1)
        · rw [List.length_map, paired_len hp2, hli]
          exact line_of (by show 1 + i ≤ 16777216; omega)
        · have t1 : Same H1 (upd H1 tt (.tup [.int (k : Int), .int (c : Int)])) := same_one ht
          have t2 := t1.trans (same_one (o := .lst [V.ref tt]) hl1)
          have t3 := t2.trans (same_one (o := .lst ([V.ref tt] ++ ps.map V.ref)) hl2)
          have hs3 := hs.same t3
          obtain ⟨a3, ga3, ha3⟩ := hs3.open_ hk
          refine ⟨_, rfl, _, rfl, p, CS, dx, _, _, rfl, hs3.obj, S.cl, S.nSt, sf_sten .., _, rfl, ta, _, _, _, rfl, rfl, SqL.of hs3.sten, atI_nat ga3, hA, a3, _, _, rfl, rfl, t3 _ _ (s2 _ _ hA1), ha3, ?_, fun l3 hl3 => ?_⟩
          · rw [nv_len, nv_len]
            have := wf.few _ (open_mem hk)
            exact line_of (by omega)
          · have t4 := t3.trans (same_one (o := .lst (nv hid ++ nv (open_ s k))) hl3)
            refine ⟨l3, l2, hid ++ open_ s k, (k, c) :: pl, _, _, rfl, s12.trans t4, t4 _ _ (s2 _ _ hR1), ?_, ?_, ?_, ?_, ?_, ?_, way⟩
            · rw [nv_app]
              exact SqL.of upd_same
            · rw [nv_app]
              exact upd_same
            · rw [List.length_append]
              have := wf.few _ (open_mem hk)
              omega
            · exact s12.free (t2.free hl2)
            · refine ⟨tt :: ps, ?_, .cons ?_ (paired_imp (fun _ _ => PairAt.same t4) hp2)⟩
              · exact (same_one hl3) _ _ upd_same
              · have u : PairAt (upd H1 tt (.tup [.int (k : Int), .int (c : Int)])) tt (k, c) := upd_same
                exact (same_one hl3) _ _ ((same_one hl2) _ _ ((same_one hl1) _ _ u))
            · rw [List.length_cons, hli]
    · rintro σ H' ⟨hA, pA, hid, pl, v4, v5, rfl, s1, hR1, _, hA1, hz, npA, hpl, hli, way⟩
      rw [nv_len, List.drop_length] at way
      rw [nv_len, List.length_reverse] at hz hli
      have way' : goBack s order.reverse [] [] = some (hid, pl) := way
      obtain ⟨dx, ca, wa, ta, ts, hs⟩ := hsf.same s1
      -- left = [..]
      refine ⟨_, rfl, p, CS, dx, _, _, rfl, hs.obj, S.cl, S.nCe, sf_cells .., ca, _, rfl, .inl (SqL.of hs.cells), _, rfl, by rw [nv_len]; omega, by rw [nv_len]; have := wf.wall25; omega, fun D hD => ?_⟩
      rw [nv_len]
      refine lc_range0_of (fun i => if (!hid.contains i) = true then some (.int (i : Int)) else none) hD (by show s.wall.length ≤ 1000000; have := wf.wall25; omega) (fun i H1 hi s2 Yes No hy hno => ?_) fun H1 s2 hD1 => ?_
      · refine ⟨rfl, _, rfl, _, rfl, hA, _, rfl, .inl (SqL.of (s2 _ _ hA1)), rfl, nv_flat hid, _, rfl, ?_⟩
        rw [if_pos rfl, inV_nv]
        exact ite2 (fun e => ⟨_, rfl, hy _ _ (Same.refl _) (if_pos e)⟩) (fun e => hno _ (Same.refl _) (if_neg e))
      · have hD2 : H1 D = some (.lst (nv ((List.range s.wall.length).filter fun i => !hid.contains i))) := by
          rw [hD1]
          show some (HO.lst ((List.range s.wall.length).filterMap _)) = _
          rw [picks_range]
          rfl
        clear hD1
        generalize hlf : ((List.range s.wall.length).filter fun i => !hid.contains i) = lf at hD2
        have inlf : ∀ i ∈ lf, i < s.wall.length := fun i hi => by
          rw [← hlf] at hi
          exact List.mem_range.mp (List.mem_filter.mp hi).1
        have lenlf : lf.length ≤ 25 := by
          have h1 := List.length_filter_le (fun i => !hid.contains i) (List.range s.wall.length)
          rw [hlf, List.length_range] at h1
          have := wf.wall25
          omega
        -- if any([..])
        refine ⟨_, rfl, D, rfl, ⟨_, SqL.of hD2⟩, fun D2 hD2' => ?_⟩
        refine lc_list_of (xs := nv lf) (fun i => some (.bl (s.wall.getD (lf.getD i 0) 0 != s.picture.getD (lf.getD i 0) 0))) hD2' (SqL.of hD2) (by rw [nv_len]; omega) (fun i x H2 hx s3 Yes No hy hno => ?_) fun H2 s3 hD4 => ?_
        · obtain ⟨hi, rfl⟩ := nv_of hx
          have hw : lf.getD i 0 < s.wall.length := inlf _ (by rw [List.getD_eq_getElem?_getD, List.getElem?_eq_getElem hi]; exact List.getElem_mem hi)
          have hp : lf.getD i 0 < s.picture.length := by rw [wf.pic, ← wf.wall]; exact hw
          have hs2 := hs.same (s2.trans s3)
          refine ⟨rfl, yes_go ?_⟩
          refine ⟨_, rfl, p, CS, dx, _, _, rfl, hs2.obj, S.cl, S.nCe, sf_cells .., _, rfl, ca, _, _, _, rfl, rfl, SqL.of hs2.cells, atI_nat (nv_get hw), _, rfl, p, CS, dx, _, _, rfl, hs2.obj, S.cl, S.nW, sf_wanted .., _, rfl, wa, _, _, _, rfl, rfl, SqL.of hs2.wanted, atI_nat (nv_get hp), rfl, ?_⟩
          rw [ne_nv]
          exact hy _ _ (Same.refl _) rfl
        · have e5 : H2 D2 = some (.lst ((lf.map fun x => s.wall.getD x 0 != s.picture.getD x 0).map V.bl)) := by
            rw [hD4, nv_len, picks_all lf (fun x => V.bl (s.wall.getD x 0 != s.picture.getD x 0)) _ (fun i x hx => by rw [getD_of hx]), List.map_map]
            rfl
          refine ⟨D2, _, rfl, SqL.of e5, _, rfl, ?_⟩
          have e6 : ((lf.map fun x => s.wall.getD x 0 != s.picture.getD x 0).any id) = miss s hid := by
            rw [List.any_map, ← hlf]
            rfl
          rw [e6]
          have pb : planBy s order = if miss s hid = true then none else some pl := by
            unfold planBy
            rw [way']
          cases em : miss s hid with
          | true =>
            rw [em] at pb
            refine iteT ?_
            exact kN _ ((s1.trans s2).trans s3) pb
          | false =>
            rw [em] at pb
            refine iteF ?_
            exact ⟨_, rfl, kS _ pA pl ((s1.trans s2).trans s3) npA pb (hpl.same (s2.trans s3))⟩
end
end SW

namespace SW
open PySem PySem.Spec PyProof.Rows L2
section
variable {P : Program} {w : World} {K : PySem.W.Frag} {mg : Str → Option Value} {base : Heap}
/-- a list of lists of numbers -/
def OrdAt (H : Hp) (a : Addr) (os : List (List Nat)) : Prop := ∃ as : List Addr, H a = some (.lst (as.map V.ref)) ∧ Paired (StenAt H) as os
theorem OrdAt.same {H H' : Hp} {a : Addr} {os : List (List Nat)} (e : Same H H') (h : OrdAt H a os) : OrdAt H' a os := by
  obtain ⟨as, h1, h2⟩ := h
  exact ⟨as, e _ _ h1, paired_imp (fun _ _ q => e _ _ q) h2⟩
theorem five_pow {m : Nat} (h : m ≤ 5) : 5 ^ m ≤ 3125 := by
  have : 5 ^ m ≤ 5 ^ 5 := Nat.pow_le_pow_right (by decide) h
  omega
theorem flat_len {α β : Type} (g : α → List β) (b : Nat) : ∀ l : List α, (∀ x ∈ l, (g x).length ≤ b) → (l.flatMap g).length ≤ l.length * b
  | [], _ => by simp
  | x :: l, h => by
    have h1 := h x List.mem_cons_self
    have h2 := flat_len g b l fun y hy => h y (List.mem_cons_of_mem _ hy)
    rw [List.flatMap_cons, List.length_append, List.length_cons, Nat.succ_mul]
    omega
theorem orders_len : ∀ (m : Nat) (l : List Nat), l.length ≤ 5 → (ordersOf l m).length ≤ 5 ^ m
  | 0, l, _ => by
    unfold ordersOf
    simp
  | m + 1, l, h => by
    unfold ordersOf
    have h1 := flat_len (fun f => (ordersOf (l.filter fun k => decide (k ≠ f)) m).map fun o => f :: o) (5 ^ m) l fun f _ => by
      rw [List.length_map]
      exact orders_len m _ (Nat.le_trans (List.length_filter_le _ _) h)
    have h2 : l.length * 5 ^ m ≤ 5 * 5 ^ m := Nat.mul_le_mul_right _ h
    rw [Nat.pow_succ]
    omega
abbrev nOr : List Str := ["stencils", "many", "found", "first", "others", "stencil", "order"]
theorem scOr : FnScope nOr ["stencils", "many"] (defScope sOrders) := ⟨rfl, rfl, rfl, by decide +kernel, rfl, by decide +kernel, by decide +kernel⟩
def spOrders (K : PySem.W.Frag) (d : Nat) : Sp := fun vs H Q _ => ∃ (a : Addr) (l : List Nat) (m : Nat), vs = [.ref a, .int (m : Int)] ∧ m ≤ d ∧ m ≤ 5 ∧ SqL K H a (nv l) ∧ l.length ≤ 5 ∧
  ∀ (H' : Hp) (p : Addr), Same H H' → H p = none → OrdAt H' p (ordersOf l m) → Q (.ref p) H'
theorem ne_nat (x y : Nat) : (!decide (V.int (x : Int) = V.int (y : Int))) = decide (x ≠ y) := by
  rw [ne_nv, Bool.eq_iff_iff]
  simp
theorem ok_orders {f : Addr} {fd : FuncData} (F : Fun K "orders_of" "orders_of" sOrders f fd) (gm : mg "orders_of" = some (.ref f)) (bi : Binds K fd ["stencils", "many"] []) :
    ∀ d, FnOk P w K mg base CX0 (d + 1) f fd ["stencils", "many"] (spOrders K d)
  | 0 => by
    refine F.ok scOr (fun vs H Q E h => ?_) (fun cdv A outer s H vs Q E hr h => ?_)
    · obtain ⟨a, l, m, rfl, _⟩ := h
      rfl
    · obtain ⟨a, l, m, rfl, hm, _, ha, hl, k⟩ := h
      obtain rfl : m = 0 := by omega
      refine ⟨_, pss_cons (ps_if (pt_cmpR op_eq (pv 1) pe_int (nomark _)) (pss_one (ps_ret (pe_lst (pa_cons (pe_lst pa_nil) pa_nil)))) pss_nil) pss_never, ?_⟩
      refine ⟨_, rfl, rfl, _, rfl, iteT (B := False) ⟨Nat.zero_le _, fun p1 h1 => ⟨line_of (by show 1 ≤ 16777216; decide), fun p2 h2 => ?_⟩⟩⟩
      have s1 : Same H (upd H p1 (.lst [])) := same_one h1
      refine k _ p2 (s1.trans (same_one h2)) (s1.free h2) ⟨[p1], upd_same, ?_⟩
      rw [ordersOf]
      exact .cons ((same_one h2) _ _ upd_same) .nil
  | d + 1 => by
    have ih := ok_orders F gm bi d
    have G : Fn P w K mg base CX0 (d + 1) "orders_of" f fd ["stencils", "many"] (spOrders K d) := ⟨gm, F.kp, bi, ih⟩
    refine F.ok scOr (fun vs H Q E h => ?_) (fun cdv A outer s H vs Q E hr h => ?_)
    · obtain ⟨a, l, m, rfl, _⟩ := h
      rfl
    · obtain ⟨a, l, m, rfl, hm, hm5, ha, hl, k⟩ := h
      refine ⟨_, pss_cons (ps_if (pt_cmpR op_eq (pv 1) pe_int (nomark _)) (pss_one (ps_ret (pe_lst (pa_cons (pe_lst pa_nil) pa_nil)))) pss_nil)
        (pss_cons (ps_set (i := 2) scOr.nd rfl (Or.inl rfl) (pe_lst pa_nil))
        (pss_cons (ps_for PassesOwn.never rfl (pi_listK K (pv 0)) (pg_name (i := 3) scOr.nd rfl (Or.inr rfl))
          (pss_cons (ps_setLc (i := 4) (own := [("stencil", 5)]) (g := gName 5) (by rfl) scOr.nd rfl rfl (sw_true rfl rfl rfl (by decide +kernel))
            (pi_listK K (pv 0))
            (blkOk_by (own := [("stencil", 5)]) (N := nOr) (sc := defScope sOrders) (by decide +kernel))
            (fun _ _ _ _ _ => pg_name (i := 5) scOr.nd rfl (Or.inl rfl))
            (fun _ _ _ _ _ => pts_one (pt_cmpR op_ne (pv 5) (pv 3) (nomark _)))
            (fun _ _ _ _ _ => pv 5))
          (pss_one (ps_expr (pe_bm PySem.F.plainAttrs_list PySem.F.slot_list_extend PySem.F.type_list_extend mt_extend (pv 2) (pa_cons (pe_lc (own := [("order", 6)]) (g := gName 6) (by rfl) scOr.nd
            (pi_listK K (pe_fn G hr (pa_cons (pv 4) (pa_cons (pe_op op_sub (pv 1) pe_int) pa_nil))))
            (blkOk_by (own := [("order", 6)]) (N := nOr) (sc := defScope sOrders) (by decide +kernel))
            (fun _ _ _ _ _ => pg_name (i := 6) scOr.nd rfl (Or.inl rfl))
            (fun _ _ _ _ _ => pts_nil)
            (fun _ _ _ _ _ => pe_op op_cat (pe_lst (pa_cons (pv 3) pa_nil)) (pv 6))) pa_nil))))))
        (pss_one (ps_ret (pv 2))))), ?_⟩
      refine ⟨_, rfl, rfl, _, rfl, ?_⟩
      cases m with
      | zero =>
        refine iteT ?_
        refine ⟨Nat.zero_le _, fun p1 h1 => ⟨line_of (by show 1 ≤ 16777216; decide), fun p2 h2 => ?_⟩⟩
        have s1 : Same H (upd H p1 (.lst [])) := same_one h1
        refine k _ p2 (s1.trans (same_one h2)) (s1.free h2) ⟨[p1], upd_same, ?_⟩
        rw [ordersOf]
        exact .cons ((same_one h2) _ _ upd_same) .nil
      | succ m =>
        have e0 : decide (V.int ((m + 1 : Nat) : Int) = V.int 0) = false := decide_eq_false (fun z => by injection z with z; omega)
        rw [e0]
        refine iteF ?_
        have em : ((m + 1 : Nat) : Int) - 1 = (m : Int) := by omega
        have p5 : 5 ^ m ≤ 3125 := five_pow (by omega)
        -- found = []
        refine ⟨Nat.zero_le _, fun fo hfo => ?_⟩
        refine ⟨_, rfl, a, rfl, ⟨_, (same_one hfo).seq ha⟩, ?_⟩
        refine for_list (K := K) (a := a) (xs := nv l) (fun i σ H' => ∃ (v3 v4 : Option V) (as : List Addr), σ = [some (.ref a), some (.int ((m + 1 : Nat) : Int)), some (.ref fo), v3, v4, none, none] ∧ Same H H' ∧ H' fo = some (.lst (as.map V.ref)) ∧ (∀ x ∈ as, x ≠ fo) ∧
            Paired (StenAt H') as ((l.take i).flatMap fun f => (ordersOf (l.filter fun k => decide (k ≠ f)) m).map fun o => f :: o))
          ⟨none, none, [], rfl, same_one hfo, upd_same, by simp, .nil⟩ (fun i σ H' _ ⟨_, _, _, _, s1, _⟩ => s1.seq ha) ?_ ?_
        · rintro i x σ H' hx ⟨v3, v4, as, rfl, s1, hf, has, hp⟩
          obtain ⟨hi, rfl⟩ := nv_of hx
          have gi : l[i]? = some (l.getD i 0) := by rw [List.getD_eq_getElem?_getD, List.getElem?_eq_getElem hi]; rfl
          generalize l.getD i 0 = c at gi ⊢
          -- others
          refine ⟨_, rfl, a, rfl, ⟨_, s1.seq ha⟩, fun D hD => ?_⟩
          refine lc_list_of (xs := nv l) (fun j => if decide (l.getD j 0 ≠ c) = true then some (.int ((l.getD j 0 : Nat) : Int)) else none) hD (s1.seq ha) (by rw [nv_len]; omega) (fun j x H1 hx s2 Yes No hy hno => ?_) fun H1 s2 hD1 => ?_
          · obtain ⟨hj, rfl⟩ := nv_of hx
            refine ⟨rfl, _, rfl, _, rfl, rfl, _, rfl, ?_⟩
            rw [ne_nat]
            exact ite2 (fun e => ⟨_, rfl, hy _ _ (Same.refl _) (if_pos e)⟩) (fun e => hno _ (Same.refl _) (if_neg e))
          · have hD2 : H1 D = some (.lst (nv (l.filter fun k => decide (k ≠ c)))) := by
              rw [hD1, nv_len, picks_filter l (fun k => decide (k ≠ c)) (fun k => V.int (k : Int)) _ (fun i x hx => by rw [getD_of hx])]
              rfl
            clear hD1
            generalize ho : (l.filter fun k => decide (k ≠ c)) = o at hD2
            have hol : o.length ≤ 5 := by
              rw [← ho]
              exact Nat.le_trans (List.length_filter_le _ _) hl
            have hf1 := s2 _ _ hf
            -- found.extend([[first] + order for order in orders_of(others, many - 1)])
            refine ⟨_, rfl, .inl ⟨rfl, _, SqL.of hf1⟩, _, rfl, _, rfl, _, _, rfl, rfl, D, o, m, (by show [V.ref D, V.int (((m + 1 : Nat) : Int) - 1)] = _; rw [em]), by omega, by omega, SqL.of hD2, hol, fun H2 R s3 hR hO => ?_⟩
            obtain ⟨os, hR1, hos⟩ := hO
            refine ⟨R, rfl, ⟨_, SqL.of hR1⟩, fun E2 hE2 => ?_⟩
            have len := orders_len m o hol
            refine lc_list (K := K) (a := R) (xs := os.map V.ref) (fun j H' => Same H2 H' ∧ ∃ bs : List Addr, H' E2 = some (.lst (bs.map V.ref)) ∧ (∀ x ∈ bs, H2 x = none ∧ x ≠ E2) ∧ Paired (StenAt H') bs (((ordersOf o m).take j).map fun o => c :: o))
              ⟨same_one hE2, [], upd_same, by simp, .nil⟩ (fun j H' _ p => SqL.of (p.1 _ _ hR1)) (fun j x H' hx p => ?_) fun H' p => ?_
            · obtain ⟨s4, bs, hb1, hb2, hb3⟩ := p
              rw [List.getElem?_map] at hx
              cases ex : os[j]? with
              | none => rw [ex] at hx; simp at hx
              | some x0 =>
                rw [ex] at hx
                obtain rfl : V.ref x0 = x := Option.some.inj hx
                obtain ⟨or, eo, hor⟩ := paired_get' hos ex
                have hj : j < (ordersOf o m).length := (List.getElem?_eq_some_iff.mp eo).1
                have hin : or.length = m := ((mem_orders m o or).mp (List.mem_of_getElem? eo)).1
                have hor' : H' x0 = some (.lst (nv or)) := s4 _ _ hor
                refine ⟨rfl, yes_go ?_⟩
                refine ⟨_, rfl, line_of (by show 1 ≤ 16777216; decide), fun l1 hl1 => ⟨_, rfl, l1, x0, _, nv or, rfl, rfl, upd_same, (same_one hl1) _ _ hor', ?_, fun l2 hl2 => ?_⟩⟩
                · rw [nv_len, hin]
                  exact line_of (by show 1 + m ≤ 16777216; omega)
                · have t1 : Same H' (upd H' l1 (.lst [V.int (c : Int)])) := same_one hl1
                  have t2 := t1.trans (same_one (o := .lst ([V.int (c : Int)] ++ nv or)) hl2)
                  refine ⟨_, t2 _ _ hb1, ?_, same_put (s4.trans t2) hE2, bs ++ [l2], ?_, ?_, ?_⟩
                  · rw [List.length_map, paired_len hb3, List.length_map, List.length_take]
                    exact line_lt (by omega)
                  · rw [upd_same, List.map_append]
                    rfl
                  · intro x hx
                    rcases List.mem_append.mp hx with hx | hx
                    · exact hb2 x hx
                    · have e : x = l2 := by simpa using hx
                      subst e
                      exact ⟨s4.free (t1.free hl2), fun z => by
                        have h9 := t1.free hl2
                        rw [z, hb1] at h9
                        cases h9⟩
                  · rw [take_more eo, List.map_append]
                    have st : Same H' (upd (upd (upd H' l1 (.lst [V.int (c : Int)])) l2 (.lst ([V.int (c : Int)] ++ nv or))) l2 (.lst ([V.int (c : Int)] ++ nv or))) := by
                      rw [upd_upd]
                      exact t2
                    refine paired_snoc ?_ ?_
                    · have hz : ∀ {bs' : List Addr} {q : List (List Nat)}, (∀ x ∈ bs', x ≠ E2) → Paired (StenAt H') bs' q → Paired (StenAt (upd (upd (upd H' l1 (.lst [V.int (c : Int)])) l2 (.lst ([V.int (c : Int)] ++ nv or))) E2 (.lst (bs.map V.ref ++ [V.ref l2])))) bs' q := by
                        intro bs' q hne hq
                        induction hq with
                        | nil => exact .nil
                        | cons r t ih =>
                          refine .cons ?_ (ih fun x hx => hne x (List.mem_cons_of_mem _ hx))
                          show upd _ _ _ _ = _
                          rw [upd_ne (hne _ List.mem_cons_self)]
                          exact t2 _ _ r
                      exact hz (fun x hx => (hb2 x hx).2) hb3
                    · show upd _ _ _ _ = _
                      rw [upd_ne (fun z => by
                        have h9 := t1.free hl2
                        rw [z, hb1] at h9
                        cases h9), upd_same]
                      rfl
            · obtain ⟨s4, bs, hb1, hb2, hb3⟩ := p
              rw [List.length_map, paired_len hos, List.take_length] at hb3
              have hf2 := s4 _ _ (s3 _ _ hf1)
              have len2 : bs.length ≤ 3125 := by
                rw [paired_len hb3, List.length_map]
                omega
              have len3 : as.length ≤ 5 * 3125 := by
                rw [paired_len hp]
                have h1 := flat_len (fun f => (ordersOf (l.filter fun k => decide (k ≠ f)) m).map fun o => f :: o) (5 ^ m) (l.take i) fun f _ => by
                  rw [List.length_map]
                  exact orders_len m _ (Nat.le_trans (List.length_filter_le _ _) hl)
                have h2 : (l.take i).length ≤ 5 := by rw [List.length_take]; omega
                have h3 : (l.take i).length * 5 ^ m ≤ 5 * 3125 := Nat.mul_le_mul h2 p5
                exact Nat.le_trans h1 h3
              refine ⟨fo, E2, _, _, rfl, rfl, hf2, hb1, ?_, ?_⟩
              · rw [List.length_map, List.length_map]
                exact line_of (by omega)
              · have s14 := ((s1.trans s2).trans s3).trans s4
                refine ⟨_, _, as ++ bs, rfl, same_put s14 hfo, ?_, ?_, ?_⟩
                · rw [upd_same, List.map_append]
                · intro x hx
                  rcases List.mem_append.mp hx with hx | hx
                  · exact has x hx
                  · exact fun z => by
                      have h9 := (hb2 x hx).1
                      rw [z, s3 _ _ hf1] at h9
                      cases h9
                · have hz : ∀ {bs' : List Addr} {q : List (List Nat)}, (∀ x ∈ bs', x ≠ fo) → Paired (StenAt H') bs' q → Paired (StenAt (upd H' fo (.lst (as.map V.ref ++ bs.map V.ref)))) bs' q := by
                    intro bs' q hne hq
                    induction hq with
                    | nil => exact .nil
                    | cons r t ih =>
                      refine .cons ?_ (ih fun x hx => hne x (List.mem_cons_of_mem _ hx))
                      show upd _ _ _ _ = _
                      rw [upd_ne (hne _ List.mem_cons_self)]
                      exact r
                  rw [take_more gi, List.flatMap_append]
                  refine paired_app (hz has (paired_imp (fun _ _ q => s4 _ _ (s3 _ _ (s2 _ _ q))) hp)) (hz (fun x hx z => by
                      have h9 := (hb2 x hx).1
                      rw [z, s3 _ _ hf1] at h9
                      cases h9) ?_)
                  rw [List.flatMap_cons, List.flatMap_nil, List.append_nil, ho]
                  exact hb3
        · rintro σ H' ⟨v3, v4, as, rfl, s1, hf, has, hp⟩
          refine ⟨_, rfl, k _ fo s1 hfo ⟨as, hf, ?_⟩⟩
          rw [nv_len, List.take_length] at hp
          rw [ordersOf]
          exact hp
end
end SW

namespace SW
open PySem PySem.Spec PyProof.Rows L2
section
variable {P : Program} {w : World} {K : PySem.W.Frag} {mg : Str → Option Value} {base : Heap} {CS : Addr}
/-! ### plans as data -/
theorem PlanAt.put {H : Hp} {a D : Addr} {pl : Row} {x y : List V} (h : PlanAt H a pl) (hD : H D = some (.lst x)) (ne : a ≠ D) : PlanAt (upd H D (.lst y)) a pl := by
  obtain ⟨ts, h1, h2⟩ := h
  refine ⟨ts, by rw [upd_ne ne]; exact h1, paired_imp (fun t q ht => ?_) h2⟩
  have nt : t ≠ D := fun z => by
    have ht' : H t = _ := ht
    rw [z, hD] at ht'
    cases ht'
  show upd _ _ _ _ = _
  rw [upd_ne nt]
  exact ht
theorem dp_pairs {H : Hp} : ∀ {ts : List Addr} {p : Row}, Paired (PairAt H) ts p → DpAll K H (ts.map V.ref) (p.map encP)
  | _, _, .nil => .nil
  | _, _, .cons r t => .cons (Dp.tup (SqT.of r) (.cons (.int _) (.cons (.int _) .nil))) (dp_pairs t)
theorem dp_plans {H : Hp} : ∀ {as : List Addr} {ps : List Row}, Paired (PlanAt H) as ps → DpAll K H (as.map V.ref) (ps.map encRow)
  | _, _, .nil => .nil
  | _, _, .cons r t => by
    obtain ⟨ts, h1, h2⟩ := r
    exact .cons (Dp.lst (SqL.of h1) (dp_pairs h2)) (dp_plans t)
theorem lay_pairs : ∀ p : Row, PyData.canLayAll0 (p.map encP) = true
  | [] => by simp [PyData.canLayAll0]
  | x :: p => by
    rw [List.map_cons, PyData.canLayAll0, lay_pairs p]
    simp [encP, PyData.canLay0, PyData.canLayAll0]
theorem lay_plans : ∀ ps : List Row, PyData.canLayAll0 (ps.map encRow) = true
  | [] => by simp [PyData.canLayAll0]
  | p :: ps => by
    rw [List.map_cons, PyData.canLayAll0, lay_plans ps]
    unfold encRow
    rw [PyData.canLay0, lay_pairs]
    rfl
theorem deep_plans : ∀ ps : List Row, PyData.depthAll (ps.map encRow) ≤ 2
  | [] => by simp [PyData.depthAll]
  | p :: ps => by
    have h1 := depth_row p
    have h2 := deep_plans ps
    rw [List.map_cons, PyData.depthAll]
    have h3 : (encRow p).depth = PyData.depthAll (p.map encP) + 1 := by unfold encRow; rw [PyData.depth]
    omega
theorem shaped_plans (ps : List Row) : SeqAt.shaped (.list (ps.map encRow)) = true := by
  unfold SeqAt.shaped
  rw [PyData.canLay0, lay_plans, PyData.depth, Bool.true_and, decide_eq_true_eq]
  have := deep_plans ps
  omega
/-- a plan or None -/
def PlV (H : Hp) (D : Addr) (v : V) : Option Row → Prop
  | none => v = .non
  | some pl => ∃ a, v = .ref a ∧ PlanAt H a pl ∧ a ≠ D
theorem PlV.same {H H' : Hp} {D : Addr} {v : V} : ∀ {r : Option Row}, Same H H' → PlV H D v r → PlV H' D v r
  | none, _, h => h
  | some _, e, ⟨a, h1, h2, h3⟩ => ⟨a, h1, h2.same e, h3⟩
theorem PlV.put {H : Hp} {D : Addr} {v : V} {x y : List V} (hD : H D = some (.lst x)) : ∀ {r : Option Row}, PlV H D v r → PlV (upd H D (.lst y)) D v r
  | none, h => h
  | some _, ⟨a, h1, h2, h3⟩ => ⟨a, h1, h2.put hD h3, h3⟩
theorem real_plans {H : Hp} {D : Addr} {g : List Nat → Option Row} : ∀ {vs : List V} {os : List (List Nat)}, Paired (fun v o => PlV H D v (g o)) vs os →
    ∃ as : List Addr, (vs.filter fun v => !decide (v = V.non)) = as.map V.ref ∧ Paired (PlanAt H) as (os.filterMap g)
  | _, _, .nil => ⟨[], rfl, .nil⟩
  | _, _, .cons (a := v) (b := o) r t => by
    obtain ⟨as, h1, h2⟩ := real_plans t
    cases eg : g o with
    | none =>
      rw [eg] at r
      have r' : v = .non := r
      refine ⟨as, ?_, ?_⟩
      · rw [List.filter_cons_of_neg (by simp [r']), h1]
      · rw [List.filterMap_cons, eg]
        exact h2
    | some pl =>
      rw [eg] at r
      obtain ⟨a, rfl, h3, _⟩ := r
      refine ⟨a :: as, ?_, ?_⟩
      · rw [List.filter_cons_of_pos (by simp), h1]
        rfl
      · rw [List.filterMap_cons, eg]
        exact .cons h3 h2
/-! ### plans_with -/
abbrev nPW : List Str := ["surface", "stencils", "many", "plans", "order", "plan"]
theorem scPW : FnScope nPW ["surface", "stencils", "many"] (defScope sPlansWith) := ⟨rfl, rfl, rfl, by decide +kernel, rfl, by decide +kernel, by decide +kernel⟩
def spPlansWith (K : PySem.W.Frag) (CS : Addr) : Sp := fun vs H Q _ => ∃ (p a : Addr) (s : Sy76.St) (l : List Nat) (m : Nat), vs = [.ref p, .ref a, .int (m : Int)] ∧ Surf CS H p s ∧ WF s ∧ SqL K H a (nv l) ∧ l.Nodup ∧ (∀ k ∈ l, k < s.stencils.length) ∧ l.length ≤ 5 ∧ m ≤ 5 ∧
  ∀ (H' : Hp) (q : Addr), Same H H' → H q = none → PlansAt H' q (plansWith s l m) → Q (.ref q) H'
theorem ok_plans_with {f fP fO : Addr} {fd fdP fdO : FuncData} (F : Fun K "plans_with" "plans_with" sPlansWith f fd) (B : Blt mg) (GP : Fn P w K mg base CX0 2 "plan_by" fP fdP ["surface", "order"] (spPlanBy K CS))
    (GO : Fn P w K mg base CX0 6 "orders_of" fO fdO ["stencils", "many"] (spOrders K 5)) : FnOk P w K mg base CX0 7 f fd ["surface", "stencils", "many"] (spPlansWith K CS) := by
  refine F.ok scPW (fun vs H Q E h => ?_) (fun cdv A outer s H vs Q E hr h => ?_)
  · obtain ⟨p, a, s, l, m, rfl, _⟩ := h
    rfl
  · obtain ⟨p, a, s, l, m, rfl, hsf, wf, ha, hnd, hin, hl, hm, k⟩ := h
    have hr2 : Room 2 _ := hr.mono (by decide)
    refine ⟨_, pss_cons (ps_setLc (i := 3) (own := [("order", 4)]) (g := gName 4) (by rfl) scPW.nd rfl rfl (sw_true rfl rfl rfl (by decide +kernel))
        (pi_listK K (pe_fn GO hr (pa_cons (pv 1) (pa_cons (pv 2) pa_nil))))
        (blkOk_by (own := [("order", 4)]) (N := nPW) (sc := defScope sPlansWith) (by decide +kernel))
        (fun _ _ _ _ _ => pg_name (i := 4) scPW.nd rfl (Or.inl rfl))
        (fun _ _ _ _ _ => pts_nil)
        (fun _ _ _ _ _ => pe_fn GP hr2 (pa_cons (pv 0) (pa_cons (pv 4) pa_nil))))
      (pss_one (ps_ret (pe_callB (cr_sortedRows hr.units) (by rfl) B.sorted (by decide +kernel) (pa_cons (pe_lc (own := [("plan", 5)]) (g := gName 5) (by rfl) scPW.nd
        (pi_listK K (pv 3))
        (blkOk_by (own := [("plan", 5)]) (N := nPW) (sc := defScope sPlansWith) (by decide +kernel))
        (fun _ _ _ _ _ => pg_name (i := 5) scPW.nd rfl (Or.inl rfl))
        (fun _ _ _ _ _ => pts_one (pt_cmpR op_notN (pv 5) pe_non (nomark _)))
        (fun _ _ _ _ _ => pv 5)) pa_nil)))), ?_⟩
    refine ⟨_, rfl, _, rfl, a, l, m, rfl, by omega, hm, ha, hl, fun H1 R s1 hR hO => ?_⟩
    obtain ⟨os, hR1, hos⟩ := hO
    have len : (ordersOf l m).length ≤ 3125 := Nat.le_trans (orders_len m l hl) (five_pow hm)
    refine ⟨R, rfl, ⟨_, SqL.of hR1⟩, fun D hD => ?_⟩
    refine lc_list (K := K) (a := R) (xs := os.map V.ref) (fun j H' => Same H1 H' ∧ ∃ vs : List V, H' D = some (.lst vs) ∧ Paired (fun v o => PlV H' D v (planBy s o)) vs ((ordersOf l m).take j))
      ⟨same_one hD, [], upd_same, .nil⟩ (fun j H' _ p => SqL.of (p.1 _ _ hR1)) (fun j x H' hx p2 => ?_) fun H' p2 => ?_
    · obtain ⟨s2, vs, hv1, hv2⟩ := p2
      rw [List.getElem?_map] at hx
      cases ex : os[j]? with
      | none => rw [ex] at hx; simp at hx
      | some x0 =>
        rw [ex] at hx
        obtain rfl : V.ref x0 = x := Option.some.inj hx
        obtain ⟨or, eo, hor⟩ := paired_get' hos ex
        have hj : j < (ordersOf l m).length := (List.getElem?_eq_some_iff.mp eo).1
        have hmem := (mem_orders m l or).mp (List.mem_of_getElem? eo)
        have hor' : H' x0 = some (.lst (nv or)) := s2 _ _ hor
        have hvl : vs.length < sizeLine := by
          rw [paired_len hv2, List.length_take]
          exact line_lt (by omega)
        have fin : ∀ (H2 : Hp) (y : V), Same H' H2 → PlV H2 D y (planBy s or) → Same H1 (upd H2 D (.lst (vs ++ [y]))) ∧ ∃ vs' : List V, (upd H2 D (.lst (vs ++ [y]))) D = some (.lst vs') ∧ Paired (fun v o => PlV (upd H2 D (.lst (vs ++ [y]))) D v (planBy s o)) vs' ((ordersOf l m).take (j + 1)) := by
          intro H2 y s3 hv
          have hD2 := s3 _ _ hv1
          refine ⟨same_put (s2.trans s3) hD, _, upd_same, ?_⟩
          rw [take_more eo]
          exact paired_snoc (paired_imp (fun v o q => PlV.put hD2 (q.same s3)) hv2) (PlV.put hD2 hv)
        refine ⟨rfl, yes_go ?_⟩
        refine ⟨_, rfl, _, rfl, p, x0, s, or, rfl, (hsf.same s1).same s2, wf, fun k hk => hin k (hmem.2.2 k hk), by rw [hmem.1]; omega, SqL.of hor', fun H2 s3 en => ?_, fun H2 b pl s3 hb es hpl => ?_⟩
        · exact ⟨vs, s3 _ _ hv1, hvl, fin H2 _ s3 (by rw [en]; rfl)⟩
        · refine ⟨vs, s3 _ _ hv1, hvl, fin H2 _ s3 (by rw [es]; exact ⟨b, rfl, hpl, fun z => by rw [z, hv1] at hb; cases hb⟩)⟩
    · obtain ⟨s2, vs, hv1, hv2⟩ := p2
      rw [List.length_map, paired_len hos, List.take_length] at hv2
      obtain ⟨as, e1, e2⟩ := real_plans hv2
      refine ⟨_, rfl, D, rfl, ⟨_, SqL.of hv1⟩, fun D2 hD2 => ?_⟩
      have hvl : vs.length ≤ 3125 := by rw [paired_len hv2]; exact len
      refine lc_list_of (xs := vs) (fun i => (vs[i]?).bind fun v => if (!decide (v = V.non)) = true then some v else none) hD2 (SqL.of hv1) (by omega) (fun i x H3 hx s3 Yes No hy hno => ?_) fun H3 s3 hD3 => ?_
      · refine ⟨rfl, _, rfl, rfl, _, rfl, ?_⟩
        exact ite2 (fun e => ⟨_, rfl, hy _ _ (Same.refl _) (by rw [hx]; exact if_pos e)⟩) (fun e => hno _ (Same.refl _) (by rw [hx]; exact if_neg e))
      · rw [picks_filter vs (fun v => !decide (v = V.non)) id _ (fun i x hx => by rw [hx]; rfl), List.map_id, e1] at hD3
        have hnd2 : (plansRaw s l m).Nodup := nodup_raw hnd hin
        refine ⟨D2, as, plansRaw s l m, rfl, hD3, paired_imp (fun _ _ q => q.same s3) e2, hnd2, fun bs q hq hb => ?_⟩
        have s123 := (s1.trans s2).trans s3
        exact k _ q (s123.trans (same_one hq)) (s123.free hq) ⟨bs, upd_same, paired_imp (fun _ _ z => z.same (same_one hq)) hb⟩
/-! ### plans_by -/
abbrev nPy : List Str := ["surface", "stencils", "many", "plans"]
theorem scPy : FnScope nPy ["surface", "stencils"] (defScope sPlansBy) := ⟨rfl, rfl, rfl, by decide +kernel, rfl, by decide +kernel, by decide +kernel⟩
def spPlansBy (K : PySem.W.Frag) (CS : Addr) : Sp := fun vs H Q _ => ∃ (p a : Addr) (s : Sy76.St) (l : List Nat), vs = [.ref p, .ref a] ∧ Surf CS H p s ∧ WF s ∧ SqL K H a (nv l) ∧ l.Nodup ∧ (∀ k ∈ l, k < s.stencils.length) ∧ l.length ≤ 5 ∧
  ∀ (H' : Hp) (q : Addr), Same H H' → H q = none → PlansAt H' q (plansBy s l) → Q (.ref q) H'
theorem plansBy_at {s : Sy76.St} {l : List Nat} {i : Nat} (h : ∀ j, j < i → plansWith s l j = []) (hi : i < l.length + 1) (hne : plansWith s l i ≠ []) : plansBy s l = plansWith s l i := by
  rcases plansBy_cases s l with ⟨_, h2⟩ | ⟨m, hm, h1, h2, e⟩
  · exact absurd (h2 i hi) hne
  · have : m = i := by
      rcases Nat.lt_trichotomy m i with c | c | c
      · exact absurd (h m c) h1
      · exact c
      · exact absurd (h2 i c) hne
    rw [e, this]
theorem plansBy_no {s : Sy76.St} {l : List Nat} (h : ∀ j, j < l.length + 1 → plansWith s l j = []) : plansBy s l = [] := by
  rcases plansBy_cases s l with ⟨e, _⟩ | ⟨m, hm, h1, _, _⟩
  · exact e
  · exact absurd (h m hm) h1
theorem ok_plans_by {f fW : Addr} {fd fdW : FuncData} (F : Fun K "plans_by" "plans_by" sPlansBy f fd) (B : Blt mg) (GW : Fn P w K mg base CX0 7 "plans_with" fW fdW ["surface", "stencils", "many"] (spPlansWith K CS)) :
    FnOk P w K mg base CX0 8 f fd ["surface", "stencils"] (spPlansBy K CS) := by
  refine F.ok scPy (fun vs H Q E h => ?_) (fun cdv A outer s H vs Q E hr h => ?_)
  · obtain ⟨p, a, s, l, rfl, _⟩ := h
    rfl
  · obtain ⟨p, a, s, l, rfl, hsf, wf, ha, hnd, hin, hl, k⟩ := h
    refine ⟨_, pss_cons (ps_for PassesOwn.never rfl (pi_range1 (by rfl) B.range (pa_cons (pe_op op_add (pe_len K B (pv 1)) pe_int) pa_nil)) (pg_name (i := 2) scPy.nd rfl (Or.inl rfl))
        (pss_cons (ps_set (i := 3) scPy.nd rfl (Or.inl rfl) (pe_fn GW hr (pa_cons (pv 0) (pa_cons (pv 1) (pa_cons (pv 2) pa_nil)))))
        (pss_one (ps_if (pt_cmpR (op_neD hr.units) (pv 3) (pe_lst pa_nil) (nomark _)) (pss_one (ps_ret (pv 3))) pss_nil))))
      (pss_one (ps_ret (pe_lst pa_nil))), ?_⟩
    refine ⟨_, rfl, a, _, rfl, .inl ha, _, _, rfl, rfl, _, rfl, by rw [nv_len]; omega, by rw [nv_len]; omega, ?_⟩
    have en : (((nv l).length : Nat) + 1 : Int).toNat = l.length + 1 := by rw [nv_len]; omega
    rw [en]
    refine for_range (lo := 0) (n := l.length + 1) (fun i σ H' => ∃ v2 v3 : Option V, σ = [some (.ref p), some (.ref a), v2, v3] ∧ Same H H' ∧ ∀ j, j < i → plansWith s l j = []) ⟨none, none, rfl, Same.refl _, fun j h => absurd h (Nat.not_lt_zero _)⟩ ?_ ?_
    · rintro i σ H' hi ⟨v2, v3, rfl, s1, hno⟩
      rw [Int.zero_add]
      refine ⟨_, rfl, _, rfl, _, rfl, p, a, s, l, i, rfl, hsf.same s1, wf, s1.seq ha, hnd, hin, hl, by omega, fun H1 q s2 hq hpl => ?_⟩
      obtain ⟨as, hq1, hq2⟩ := id hpl
      refine ⟨_, rfl, Nat.zero_le _, fun e he => ?_⟩
      have s3 : Same H1 (upd H1 e (.lst [])) := same_one he
      obtain ⟨as', hq1', hq2'⟩ := hpl.same s3
      refine ⟨_, _, Dp.lst (SqL.of hq1') (dp_plans hq2'), Dp.lst (SqL.of upd_same) .nil, shaped_plans _, shaped_nil, _, rfl, ?_⟩
      rw [eqv_nil]
      cases ep : plansWith s l i with
      | nil =>
        refine iteF ?_
        refine ⟨_, _, rfl, (s1.trans s2).trans s3, fun j hj => ?_⟩
        by_cases c : j = i
        · rw [c]; exact ep
        · exact hno j (by omega)
      | cons r rs =>
        refine iteT ?_
        refine ⟨_, rfl, k _ q ((s1.trans s2).trans s3) (s1.free hq) ?_⟩
        rw [plansBy_at hno hi (by rw [ep]; simp)]
        exact hpl.same s3
    · rintro σ H' ⟨v2, v3, rfl, s1, hno⟩
      refine ⟨Nat.zero_le _, fun q hq => k _ q (s1.trans (same_one hq)) (s1.free hq) ?_⟩
      rw [plansBy_no hno]
      exact ⟨[], upd_same, .nil⟩
/-! ### plans_of -/
theorem scPf : FnScope ["surface"] ["surface"] (defScope sPlansOf) := ⟨rfl, rfl, rfl, by decide +kernel, rfl, by decide +kernel, by decide +kernel⟩
def spPlansOf (CS : Addr) : Sp := fun vs H Q _ => ∃ (p : Addr) (s : Sy76.St), vs = [.ref p] ∧ Surf CS H p s ∧ WF s ∧ ∀ (H' : Hp) (q : Addr), Same H H' → H q = none → PlansAt H' q (plansOf s) → Q (.ref q) H'
theorem ok_plans_of {f fB fA : Addr} {fd fdB fdA : FuncData} (F : Fun K "plans_of" "plans_of" sPlansOf f fd) (GB : Fn P w K mg base CX0 8 "plans_by" fB fdB ["surface", "stencils"] (spPlansBy K CS))
    (GA : Fn P w K mg base CX0 1 "all_stencils" fA fdA ["surface"] (spAllSt CS)) : FnOk P w K mg base CX0 9 f fd ["surface"] (spPlansOf CS) := by
  refine F.ok scPf (fun vs H Q E h => ?_) (fun cdv A outer s H vs Q E hr h => ?_)
  · obtain ⟨p, s, rfl, _⟩ := h
    rfl
  · obtain ⟨p, s, rfl, hsf, wf, k⟩ := h
    refine ⟨_, pss_one (ps_ret (pe_fn GB hr (pa_cons (pv 0) (pa_cons (pe_fn GA (hr.mono (by decide)) (pa_cons (pv 0) pa_nil)) pa_nil)))), ?_⟩
    refine ⟨_, rfl, _, rfl, p, s, rfl, hsf, by have := wf.many; omega, fun H1 a s1 _ ha => ?_⟩
    refine ⟨p, a, s, List.range s.stencils.length, rfl, hsf.same s1, wf, SqL.of ha, List.nodup_range, fun k hk => List.mem_range.mp hk, by rw [List.length_range]; exact wf.many, fun H2 q s2 hq hpl => ?_⟩
    exact k H2 q (s1.trans s2) (s1.free hq) hpl
/-! ### is_needed -/
abbrev nIN : List Str := ["surface", "stencil", "others", "other"]
theorem scIN : FnScope nIN ["surface", "stencil"] (defScope sIsNeeded) := ⟨rfl, rfl, rfl, by decide +kernel, rfl, by decide +kernel, by decide +kernel⟩
def spIsNeeded (CS : Addr) : Sp := fun vs H Q _ => ∃ (p : Addr) (s : Sy76.St) (i : Nat), vs = [.ref p, .int (i : Int)] ∧ Surf CS H p s ∧ WF s ∧ ∀ H' : Hp, Same H H' → Q (.bl (isNeeded s i)) H'
theorem ok_is_needed {f fB fA : Addr} {fd fdB fdA : FuncData} (F : Fun K "is_needed" "is_needed" sIsNeeded f fd) (GB : Fn P w K mg base CX0 8 "plans_by" fB fdB ["surface", "stencils"] (spPlansBy K CS))
    (GA : Fn P w K mg base CX0 1 "all_stencils" fA fdA ["surface"] (spAllSt CS)) : FnOk P w K mg base CX0 9 f fd ["surface", "stencil"] (spIsNeeded CS) := by
  refine F.ok scIN (fun vs H Q E h => ?_) (fun cdv A outer s H vs Q E hr h => ?_)
  · obtain ⟨p, s, i, rfl, _⟩ := h
    rfl
  · obtain ⟨p, s, i, rfl, hsf, wf, k⟩ := h
    refine ⟨_, pss_cons (ps_setLc (i := 2) (own := [("other", 3)]) (g := gName 3) (by rfl) scIN.nd rfl rfl (sw_true rfl rfl rfl (by decide +kernel))
        (pi_listK K (pe_fn GA (hr.mono (by decide)) (pa_cons (pv 0) pa_nil)))
        (blkOk_by (own := [("other", 3)]) (N := nIN) (sc := defScope sIsNeeded) (by decide +kernel))
        (fun _ _ _ _ _ => pg_name (i := 3) scIN.nd rfl (Or.inl rfl))
        (fun _ _ _ _ _ => pts_one (pt_cmpR op_ne (pv 3) (pv 1) (nomark _)))
        (fun _ _ _ _ _ => pv 3))
      (pss_one (ps_ret (pe_cmpR (op_eqD hr.units) (pe_fn GB hr (pa_cons (pv 0) (pa_cons (pv 2) pa_nil))) (pe_lst pa_nil) (nomark _)))), ?_⟩
    refine ⟨_, rfl, p, s, rfl, hsf, by have := wf.many; omega, fun H1 a s1 _ ha => ?_⟩
    have lr : (List.range s.stencils.length).length ≤ 5 := by rw [List.length_range]; exact wf.many
    generalize hl : List.range s.stencils.length = l at ha lr
    refine ⟨a, rfl, ⟨_, SqL.of ha⟩, fun D hD => ?_⟩
    refine lc_list_of (xs := nv l) (fun j => if decide (l.getD j 0 ≠ i) = true then some (.int ((l.getD j 0 : Nat) : Int)) else none) hD (SqL.of ha) (by rw [nv_len]; omega) (fun j x H2 hx s2 Yes No hy hno => ?_) fun H2 s2 hD1 => ?_
    · obtain ⟨hj, rfl⟩ := nv_of hx
      refine ⟨rfl, _, rfl, _, rfl, rfl, _, rfl, ?_⟩
      rw [ne_nat]
      exact ite2 (fun e => ⟨_, rfl, hy _ _ (Same.refl _) (if_pos e)⟩) (fun e => hno _ (Same.refl _) (if_neg e))
    · have hD2 : H2 D = some (.lst (nv (l.filter fun k => decide (k ≠ i)))) := by
        rw [hD1, nv_len, picks_filter l (fun k => decide (k ≠ i)) (fun k => V.int (k : Int)) _ (fun i x hx => by rw [getD_of hx])]
        rfl
      refine ⟨_, rfl, _, rfl, p, D, s, l.filter fun k => decide (k ≠ i), rfl, (hsf.same s1).same s2, wf, SqL.of hD2, ?_, ?_, ?_, fun H3 q s3 hq hpl => ?_⟩
      · rw [← hl]
        exact List.nodup_range.filter _
      · intro k hk
        rw [← hl] at hk
        exact List.mem_range.mp (List.mem_filter.mp hk).1
      · exact Nat.le_trans (List.length_filter_le _ _) lr
      · refine ⟨Nat.zero_le _, fun e he => ?_⟩
        have s4 : Same H3 (upd H3 e (.lst [])) := same_one he
        obtain ⟨as', hq1', hq2'⟩ := hpl.same s4
        refine ⟨_, _, Dp.lst (SqL.of hq1') (dp_plans hq2'), Dp.lst (SqL.of upd_same) .nil, shaped_plans _, shaped_nil, ?_⟩
        rw [eqv_nil]
        have e5 : ((plansBy s (l.filter fun k => decide (k ≠ i))).map encRow).isEmpty = isNeeded s i := by
          unfold isNeeded
          rw [hl]
          cases plansBy s (l.filter fun k => decide (k ≠ i)) <;> simp
        rw [e5]
        exact k _ (((s1.trans s2).trans s3).trans s4)
/-! ### needed_of -/
abbrev nNO : List Str := ["surface", "stencil"]
theorem scNO : FnScope nNO ["surface"] (defScope sNeededOf) := ⟨rfl, rfl, rfl, by decide +kernel, rfl, by decide +kernel, by decide +kernel⟩
def spNeededOf (CS : Addr) : Sp := fun vs H Q _ => ∃ (p : Addr) (s : Sy76.St), vs = [.ref p] ∧ Surf CS H p s ∧ WF s ∧ ∀ (H' : Hp) (q : Addr), Same H H' → H q = none → H' q = some (.lst (nv (neededOf s))) → Q (.ref q) H'
theorem ok_needed_of {f fI fA : Addr} {fd fdI fdA : FuncData} (F : Fun K "needed_of" "needed_of" sNeededOf f fd) (GI : Fn P w K mg base CX0 9 "is_needed" fI fdI ["surface", "stencil"] (spIsNeeded CS))
    (GA : Fn P w K mg base CX0 1 "all_stencils" fA fdA ["surface"] (spAllSt CS)) : FnOk P w K mg base CX0 10 f fd ["surface"] (spNeededOf CS) := by
  refine F.ok scNO (fun vs H Q E h => ?_) (fun cdv A outer s H vs Q E hr h => ?_)
  · obtain ⟨p, s, rfl, _⟩ := h
    rfl
  · obtain ⟨p, s, rfl, hsf, wf, k⟩ := h
    refine ⟨_, pss_one (ps_ret (pe_lc (own := [("stencil", 1)]) (g := gName 1) (by rfl) scNO.nd
        (pi_listK K (pe_fn GA (hr.mono (by decide)) (pa_cons (pv 0) pa_nil)))
        (blkOk_by (own := [("stencil", 1)]) (N := nNO) (sc := defScope sNeededOf) (by decide +kernel))
        (fun _ _ _ _ _ => pg_name (i := 1) scNO.nd rfl (Or.inl rfl))
        (fun _ _ _ _ _ => pts_one (pt_val (pe_fn GI hr (pa_cons (pv 0) (pa_cons (pv 1) pa_nil)))))
        (fun _ _ _ _ _ => pv 1))), ?_⟩
    refine ⟨_, rfl, p, s, rfl, hsf, by have := wf.many; omega, fun H1 a s1 _ ha => ?_⟩
    have lr : (List.range s.stencils.length).length ≤ 5 := by rw [List.length_range]; exact wf.many
    generalize hl : List.range s.stencils.length = l at ha lr
    refine ⟨a, rfl, ⟨_, SqL.of ha⟩, fun D hD => ?_⟩
    refine lc_list_of (xs := nv l) (fun j => if isNeeded s (l.getD j 0) = true then some (.int ((l.getD j 0 : Nat) : Int)) else none) hD (SqL.of ha) (by rw [nv_len]; omega) (fun j x H2 hx s2 Yes No hy hno => ?_) fun H2 s2 hD1 => ?_
    · obtain ⟨hj, rfl⟩ := nv_of hx
      refine ⟨rfl, _, rfl, _, rfl, p, s, l.getD j 0, rfl, (hsf.same s1).same s2, wf, fun H3 s3 => ⟨_, rfl, ?_⟩⟩
      exact ite2 (fun e => ⟨_, rfl, hy _ _ s3 (if_pos e)⟩) (fun e => hno _ s3 (if_neg e))
    · refine k _ D (s1.trans s2) (s1.free hD) ?_
      rw [hD1, nv_len, picks_filter l (isNeeded s) (fun k => V.int (k : Int)) _ (fun i x hx => by rw [getD_of hx]), ← hl]
      rfl
end
end SW

namespace SW
open PySem PySem.Spec PyProof.Rows L2
/-! ### a surface that is owned: all that it stands on is told by nobody else (H0) -/
def OwnS (CS : Addr) (H0 H : Hp) (p : Addr) (s : Sy76.St) : Prop := ∃ dx c w t ts, SurfAt CS H p s dx c w t ts ∧ H0 p = none ∧ H0 c = none ∧ H0 w = none ∧ H0 t = none ∧ ∀ a ∈ ts, H0 a = none
theorem OwnS.surf {CS : Addr} {H0 H : Hp} {p : Addr} {s : Sy76.St} (h : OwnS CS H0 H p s) : Surf CS H p s := by
  obtain ⟨dx, c, w, t, ts, hs, _⟩ := h
  exact ⟨dx, c, w, t, ts, hs⟩
theorem OwnS.same {CS : Addr} {H0 H H' : Hp} {p : Addr} {s : Sy76.St} (e : Same H H') (h : OwnS CS H0 H p s) : OwnS CS H0 H' p s := by
  obtain ⟨dx, c, w, t, ts, hs, r⟩ := h
  exact ⟨dx, c, w, t, ts, hs.same e, r⟩
theorem OwnS.weak {CS : Addr} {H0 H1 H : Hp} {p : Addr} {s : Sy76.St} (e : Same H0 H1) (h : OwnS CS H1 H p s) : OwnS CS H0 H p s := by
  obtain ⟨dx, c, w, t, ts, hs, h1, h2, h3, h4, h5⟩ := h
  exact ⟨dx, c, w, t, ts, hs, e.free h1, e.free h2, e.free h3, e.free h4, fun a ha => e.free (h5 a ha)⟩
theorem sten_put {H0 H : Hp} {b : Addr} {o o' : HO} (hb : H0 b = some o) : ∀ {ts : List Addr} {q : List (List Nat)}, (∀ a ∈ ts, H0 a = none) → Paired (StenAt H) ts q → Paired (StenAt (upd H b o')) ts q
  | _, _, _, .nil => .nil
  | _, _, h, .cons r t => by
    refine .cons ?_ (sten_put hb (fun a ha => h a (List.mem_cons_of_mem _ ha)) t)
    have ne := (ne_of_none hb (h _ List.mem_cons_self)).symm
    show upd _ _ _ _ = _
    rw [upd_ne ne]
    exact r
/-- what the others know is written -/
theorem OwnS.put {CS : Addr} {H0 H : Hp} {p b : Addr} {s : Sy76.St} {o o' : HO} (hb : H0 b = some o) (h : OwnS CS H0 H p s) : OwnS CS H0 (upd H b o') p s := by
  obtain ⟨dx, c, w, t, ts, hs, h1, h2, h3, h4, h5⟩ := h
  refine ⟨dx, c, w, t, ts, ⟨?_, ?_, ?_, ?_, sten_put hb h5 hs.each⟩, h1, h2, h3, h4, h5⟩
  · rw [upd_ne (ne_of_none hb h1).symm]; exact hs.obj
  · rw [upd_ne (ne_of_none hb h2).symm]; exact hs.cells
  · rw [upd_ne (ne_of_none hb h3).symm]; exact hs.wanted
  · rw [upd_ne (ne_of_none hb h4).symm]; exact hs.sten
def wf1 (p : Addr) : List (Str × V) := [("surface", .ref p)]
theorem wf1_get (p : Addr) : (wf1 p).lookup ("surface" : Str) = some (.ref p) := by simp [wf1, List.lookup]
theorem wf1_put (p p' : Addr) : putF "surface" (.ref p') (wf1 p) = wf1 p' := by
  unfold wf1
  simp only [putF]
  rw [if_pos True.intro]
/-- a wall at q, its surface as s tells -/
def WallAt (CW CS : Addr) (H0 H : Hp) (q : Addr) (s : Sy76.St) : Prop := H0 q = none ∧ ∃ dq p, H q = some (.ins CW dq (wf1 p)) ∧ OwnS CS H0 H p s
theorem WallAt.same {CW CS : Addr} {H0 H H' : Hp} {q : Addr} {s : Sy76.St} (e : Same H H') (h : WallAt CW CS H0 H q s) : WallAt CW CS H0 H' q s := by
  obtain ⟨h0, dq, p, hq, ho⟩ := h
  exact ⟨h0, dq, p, e _ _ hq, ho.same e⟩
theorem WallAt.weak {CW CS : Addr} {H0 H1 H : Hp} {q : Addr} {s : Sy76.St} (e : Same H0 H1) (h : WallAt CW CS H1 H q s) : WallAt CW CS H0 H q s := by
  obtain ⟨h0, dq, p, hq, ho⟩ := h
  exact ⟨e.free h0, dq, p, hq, ho.weak e⟩
theorem WallAt.put {CW CS : Addr} {H0 H : Hp} {q b : Addr} {s : Sy76.St} {o o' : HO} (hb : H0 b = some o) (h : WallAt CW CS H0 H q s) : WallAt CW CS H0 (upd H b o') q s := by
  obtain ⟨h0, dq, p, hq, ho⟩ := h
  exact ⟨h0, dq, p, by rw [upd_ne (ne_of_none hb h0).symm]; exact hq, ho.put hb⟩
def newSt (r c : Nat) : Sy76.St := ⟨r, c, [], List.replicate (r * c) 0, List.replicate (r * c) 0, 0⟩
theorem newSt_wf {r c : Nat} (h1 : 1 ≤ r) (h2 : r ≤ 5) (h3 : 1 ≤ c) (h4 : c ≤ 5) : WF (newSt r c) :=
  ⟨h1, h2, h3, h4, List.length_replicate .., List.length_replicate .., Nat.zero_le _, fun l h => absurd h (by simp [newSt]), fun l h => absurd h (by simp [newSt])⟩
theorem rep_nv (n : Nat) : (List.replicate n [V.int 0]).flatten = nv (List.replicate n 0) := by
  unfold nv
  induction n with
  | zero => rfl
  | succ n ih =>
    rw [List.replicate_succ, List.replicate_succ, List.flatten_cons, ih]
    rfl
theorem e_lr : ¬ (("many_rows" : Str) = "many_columns") := by decide +kernel
section
variable (r c : Nat) (cl wa st : Addr)
theorem sf_init : putF "sprays" (.int 0) (putF "stencils" (.ref st) (putF "wanted" (.ref wa) (putF "cells" (.ref cl) (putF "many_columns" (.int (c : Int)) (putF "many_rows" (.int (r : Int)) []))))) = sf r c cl wa st 0 := by
  unfold sf
  simp only [putF]
  rw [if_neg e_lr]
  simp only [putF]
  rw [if_neg (ne_of_beq e_cr), if_neg (ne_of_beq e_cc)]
  simp only [putF]
  rw [if_neg (ne_of_beq e_wr), if_neg (ne_of_beq e_wc), if_neg (ne_of_beq e_wl)]
  simp only [putF]
  rw [if_neg (ne_of_beq e_tr), if_neg (ne_of_beq e_tc), if_neg (ne_of_beq e_tl), if_neg (ne_of_beq e_tw)]
  simp only [putF]
  rw [if_neg (ne_of_beq e_sr), if_neg (ne_of_beq e_sc), if_neg (ne_of_beq e_sl), if_neg (ne_of_beq e_sw), if_neg (ne_of_beq e_st)]
  rfl
theorem putF_len (f : Str) (v : V) : ∀ fs : List (Str × V), (putF f v fs).length ≤ fs.length + 1
  | [] => Nat.le_refl _
  | (g, x) :: r => by
    unfold putF
    split
    · simp
    · simp only [List.length_cons]
      have := putF_len f v r
      omega
end
section
variable {P : Program} {w : World} {K : PySem.W.Frag} {mg : Str → Option Value} {base : Heap} {CS CW CR : Addr}
/-! ### Surface(r, c) -/
def spSurfI (CS : Addr) : Sp := fun vs H Q _ => ∃ (H0 : Hp) (x dx : Addr) (r c : Nat), vs = [.ref x, .int (r : Int), .int (c : Int)] ∧ r ≤ 5 ∧ c ≤ 5 ∧ Same H0 H ∧ H0 x = none ∧ H x = some (.ins CS dx []) ∧
  ∀ H' : Hp, Same H0 H' → OwnS CS H0 H' x (newSt r c) → Q .non H'
theorem scSI : FnScope ["self", "many_rows", "many_columns"] ["self", "many_rows", "many_columns"] (defScope sSurfI) := ⟨rfl, rfl, rfl, by decide +kernel, rfl, by decide +kernel, by decide +kernel⟩
theorem ok_surf_init {f : Addr} {fd : FuncData} (F : Fun K "__init__" "Surface.__init__" sSurfI f fd) (N0 : Num mg "BARE" 0) (S : SurfC K CS) : FnOk P w K mg base CX0 1 f fd ["self", "many_rows", "many_columns"] (spSurfI CS) := by
  refine F.ok scSI (fun vs H Q E h => ?_) (fun cdv A outer s H vs Q E hr h => ?_)
  · obtain ⟨H0, x, dx, r, c, rfl, _⟩ := h
    rfl
  · obtain ⟨H0, x, dx, r, c, rfl, h1, h2, s0, n0, hx, k⟩ := h
    have hrc : r * c ≤ 25 := Nat.mul_le_mul h1 h2
    refine ⟨_, pss_cons (ps_fld (pv 0) (pv 1) rfl) (pss_cons (ps_fld (pv 0) (pv 2) rfl)
      (pss_cons (ps_fld (pv 0) (pe_op op_rep (pe_lst (pa_cons (pe_num N0) pa_nil)) (pe_op op_mul (pv 1) (pv 2))) rfl)
      (pss_cons (ps_fld (pv 0) (pe_op op_rep (pe_lst (pa_cons (pe_num N0) pa_nil)) (pe_op op_mul (pv 1) (pv 2))) rfl)
      (pss_cons (ps_fld (pv 0) (pe_lst pa_nil) rfl) (pss_one (ps_fld (pv 0) pe_int rfl)))))), ?_⟩
    have em : ((r : Int) * (c : Int)).toNat = r * c := by rw [← Int.natCast_mul]; rfl
    have em1 : -(2 ^ 63 : Int) ≤ (r : Int) * (c : Int) := by rw [← Int.natCast_mul]; omega
    have em2 : (r : Int) * (c : Int) < 2 ^ 63 := by rw [← Int.natCast_mul]; omega
    refine ⟨_, rfl, _, rfl, x, CS, dx, [], rfl, hx, S.cl, S.nR, (by show 0 < 1000; decide), ?_⟩
    refine ⟨_, rfl, _, rfl, x, CS, dx, _, rfl, upd_same, S.cl, S.nC, (by show 1 < 1000; decide), ?_⟩
    rw [upd_upd]
    -- self.cells
    have sA : Same H0 (upd H x (.ins CS dx (putF "many_columns" (.int (c : Int)) (putF "many_rows" (.int (r : Int)) [])))) := same_put s0 n0
    generalize hHA : upd H x (.ins CS dx (putF "many_columns" (.int (c : Int)) (putF "many_rows" (.int (r : Int)) []))) = HA at sA ⊢
    have hxA : HA x = some (.ins CS dx (putF "many_columns" (.int (c : Int)) (putF "many_rows" (.int (r : Int)) []))) := by rw [← hHA, upd_same]
    refine ⟨line_of (by show 1 ≤ 16777216; decide), fun t1 ht1 => ⟨_, rfl, _, rfl, _, _, rfl, rfl, .inl ⟨by omega, by omega⟩, t1, _, _, rfl, rfl, upd_same, em1, em2, ?_, fun c1 hc1 => ?_⟩⟩
    · rw [em]
      exact line_of (by show 1 * (r * c) ≤ 16777216; omega)
    rw [em, rep_nv]
    have sB := (same_one (o := .lst [V.int 0]) ht1).trans (same_one (o := .lst (nv (List.replicate (r * c) 0))) hc1)
    have nc1 : H0 c1 = none := (sA.trans (same_one ht1)).free hc1
    have hc1' : (upd (upd HA t1 (.lst [V.int 0])) c1 (.lst (nv (List.replicate (r * c) 0)))) c1 = some (.lst (nv (List.replicate (r * c) 0))) := upd_same
    have hxB := sB _ _ hxA
    have s0B := sA.trans sB
    generalize (upd (upd HA t1 (.lst [V.int 0])) c1 (.lst (nv (List.replicate (r * c) 0)))) = HB at hc1' hxB s0B ⊢
    have ncx : c1 ≠ x := ne_of hc1' hxB (fun z => by cases z)
    refine ⟨_, rfl, x, CS, dx, _, rfl, hxB, S.cl, S.nCe, (by show 2 < 1000; decide), ?_⟩
    -- self.wanted
    have sC : Same H0 (upd HB x (.ins CS dx (putF "cells" (.ref c1) (putF "many_columns" (.int (c : Int)) (putF "many_rows" (.int (r : Int)) []))))) := same_put s0B n0
    have hc1C : (upd HB x (.ins CS dx (putF "cells" (.ref c1) (putF "many_columns" (.int (c : Int)) (putF "many_rows" (.int (r : Int)) []))))) c1 = some (.lst (nv (List.replicate (r * c) 0))) := by rw [upd_ne ncx]; exact hc1'
    have hxC : (upd HB x (.ins CS dx (putF "cells" (.ref c1) (putF "many_columns" (.int (c : Int)) (putF "many_rows" (.int (r : Int)) []))))) x = some _ := upd_same
    generalize (upd HB x (.ins CS dx (putF "cells" (.ref c1) (putF "many_columns" (.int (c : Int)) (putF "many_rows" (.int (r : Int)) []))))) = HC at sC hc1C hxC ⊢
    refine ⟨line_of (by show 1 ≤ 16777216; decide), fun t2 ht2 => ⟨_, rfl, _, rfl, _, _, rfl, rfl, .inl ⟨by omega, by omega⟩, t2, _, _, rfl, rfl, upd_same, em1, em2, ?_, fun c2 hc2 => ?_⟩⟩
    · rw [em]
      exact line_of (by show 1 * (r * c) ≤ 16777216; omega)
    rw [em, rep_nv]
    have sD := (same_one (o := .lst [V.int 0]) ht2).trans (same_one (o := .lst (nv (List.replicate (r * c) 0))) hc2)
    have nc2 : H0 c2 = none := (sC.trans (same_one ht2)).free hc2
    have hc2' : (upd (upd HC t2 (.lst [V.int 0])) c2 (.lst (nv (List.replicate (r * c) 0)))) c2 = some (.lst (nv (List.replicate (r * c) 0))) := upd_same
    have hxD := sD _ _ hxC
    have hc1D := sD _ _ hc1C
    have s0D := sC.trans sD
    generalize (upd (upd HC t2 (.lst [V.int 0])) c2 (.lst (nv (List.replicate (r * c) 0)))) = HD at hc2' hxD hc1D s0D ⊢
    have ncx2 : c2 ≠ x := ne_of hc2' hxD (fun z => by cases z)
    refine ⟨_, rfl, x, CS, dx, _, rfl, hxD, S.cl, S.nW, (by show 3 < 1000; decide), ?_⟩
    -- self.stencils, self.sprays
    refine ⟨Nat.zero_le _, fun c3 hc3 => ?_⟩
    have nxc3 : x ≠ c3 := fun z => by rw [← z, upd_same] at hc3; cases hc3
    refine ⟨_, rfl, x, CS, dx, _, rfl, Eq.trans (upd_ne nxc3) upd_same, S.cl, S.nSt, (by show 4 < 1000; decide), ?_⟩
    refine ⟨_, rfl, x, CS, dx, _, rfl, upd_same, S.cl, S.nSp, (by show 5 < 1000; decide), ?_⟩
    rw [upd_upd, sf_init]
    have nc3D : HD c3 = none := by rw [upd_ne nxc3.symm] at hc3; exact hc3
    have nc3 : H0 c3 = none := s0D.free nc3D
    refine k _ ?_ ⟨dx, c1, c2, c3, [], ⟨upd_same, ?_, ?_, ?_, .nil⟩, n0, nc1, nc2, nc3, by simp⟩
    · exact same_put (same_put (same_put s0D n0) nc3) n0
    · rw [upd_ne ncx, upd_ne (ne_of_none hc1D nc3D), upd_ne ncx]; exact hc1D
    · rw [upd_ne ncx2, upd_ne (ne_of_none hc2' nc3D), upd_ne ncx2]; exact hc2'
    · rw [upd_ne nxc3.symm, upd_same]; rfl
/-! ### Wall() -/
def spWallI (CW CS : Addr) : Sp := fun vs H Q _ => ∃ (H0 : Hp) (q dq : Addr), vs = [.ref q] ∧ Same H0 H ∧ H0 q = none ∧ H q = some (.ins CW dq []) ∧ ∀ H' : Hp, Same H0 H' → WallAt CW CS H0 H' q (newSt 1 1) → Q .non H'
theorem scWI : FnScope ["self"] ["self"] (defScope sWallI) := ⟨rfl, rfl, rfl, by decide +kernel, rfl, by decide +kernel, by decide +kernel⟩
theorem ok_wall_init {f fI : Addr} {fd fdI : FuncData} (F : Fun K "__init__" "Wall.__init__" sWallI f fd) (W : WallC K CW) (gS : mg "Surface" = some (.ref CS)) (M : Mk K CS fI) (bI : Binds K fdI ["self", "many_rows", "many_columns"] [])
    (GI : FnOk P w K mg base CX0 1 fI fdI ["self", "many_rows", "many_columns"] (spSurfI CS)) : FnOk P w K mg base CX0 3 f fd ["self"] (spWallI CW CS) := by
  refine F.ok scWI (fun vs H Q E h => ?_) (fun cdv A outer s H vs Q E hr h => ?_)
  · obtain ⟨H0, q, dq, rfl, _⟩ := h
    rfl
  · obtain ⟨H0, q, dq, rfl, s0, n0, hq, k⟩ := h
    refine ⟨_, pss_one (ps_fld (pv 0) (pe_make M GI hr rfl gS bI .nil pass0 (pa_cons pe_int (pa_cons pe_int pa_nil))) rfl), ?_⟩
    intro x dx nx ndx nex
    have sN : Same H (upd (upd H dx (.own x)) x (.ins CS dx [])) := fun b o e => by
      rw [upd_ne (ne_of_none e nx), upd_ne (ne_of_none e ndx)]
      exact e
    refine ⟨H, x, dx, 1, 1, rfl, by decide, by decide, sN, nx, upd_same, fun H1 s1 own => ⟨rfl, ?_⟩⟩
    refine ⟨_, rfl, q, CW, dq, [], rfl, s1 _ _ hq, W.cl, W.nS, (by show 0 < 1000; decide), ?_⟩
    exact k _ (same_put (s0.trans s1) n0) ⟨n0, dq, x, upd_same, (own.put hq).weak s0⟩
/-! ### Refused(code), need(holds, code) -/
structure RefC (K : PySem.W.Frag) (CR fR : Addr) : Prop where
  ox : OexC K CR
  xf : XfC K CR
  nCode : PySem.W.findIn K (.ref CR) "code" = some none
  iC : PySem.W.findIn K (.ref CR) "__init__" = some (some (.ref fR))
  tI : PySem.W.typeIn K (.ref fR) = some (.type "function")
def spRefI (CR : Addr) : Sp := fun vs H Q _ => ∃ (a : Addr) (c : Int), vs = [.ref a, .int c] ∧ H a = some (exo a CR none) ∧ ∀ dx, H dx = none → dx ≠ a → Q .non (upd (upd H dx (exd dx [("code", .int c)])) a (exo a CR (some dx)))
theorem scRI : FnScope ["self", "code"] ["self", "code"] (defScope sRefI) := ⟨rfl, rfl, rfl, by decide +kernel, rfl, by decide +kernel, by decide +kernel⟩
theorem ok_ref_init {f fR : Addr} {fd : FuncData} (F : Fun K "__init__" "Refused.__init__" sRefI f fd) (T : RefC K CR fR) : FnOk P w K mg base CX0 1 f fd ["self", "code"] (spRefI CR) := by
  refine F.ok scRI (fun vs H Q E h => ?_) (fun cdv A outer s H vs Q E hr h => ?_)
  · obtain ⟨a, c, rfl, _⟩ := h
    rfl
  · obtain ⟨a, c, rfl, ha, k⟩ := h
    refine ⟨_, pss_one (ps_ost (pv 0) (pv 1)), ?_⟩
    exact ⟨_, rfl, _, rfl, a, CR, rfl, T.ox, T.nCode, .inl ⟨ha, fun dx n ne => k dx n ne⟩⟩
/-- the error's own dict, new, tells the code -/
def spNeed (CR : Addr) : Sp := fun vs H Q E => ∃ (b : Bool) (c : Int), vs = [.bl b, .int c] ∧ (b = true → Q .non H) ∧
  (b = false → ∀ (H' : Hp) (d : Addr), Same H H' → H d = none → H' d = some (.xd [("code", .int c)]) → E (.ref CR) (some d) H')
theorem scN : FnScope ["holds", "code"] ["holds", "code"] (defScope sNeed) := ⟨rfl, rfl, rfl, by decide +kernel, rfl, by decide +kernel, by decide +kernel⟩
theorem exo_new {a dx : Addr} {C : Addr} : exo a C none ≠ exo a C (some dx) → True := fun _ => trivial
theorem ok_need {f fR : Addr} {fd fdR : FuncData} (F : Fun K "need" "need" sNeed f fd) (T : RefC K CR fR) (gR : mg "Refused" = some (.ref CR)) (bR : Binds K fdR ["self", "code"] []) (GR : FnOk P w K mg base CX0 1 fR fdR ["self", "code"] (spRefI CR)) :
    FnOk P w K mg base (L2.CX P w) 3 f fd ["holds", "code"] (spNeed CR) := by
  refine F.okX scN (fun vs H Q E h => ?_) (fun cdv A outer s H vs Q E hr h => ?_)
  · obtain ⟨b, c, rfl, _⟩ := h
    rfl
  · obtain ⟨b, c, rfl, kT, kF⟩ := h
    refine ⟨_, pss_one (ps_if (pt_not (pt_val (pv 0))) (pss_one (ps_raise rfl (takes_of rfl rfl rfl rfl) (pmk_oex T.ox T.iC T.tI GR hr bR .nil pass0 rfl gR (pa_cons (pv 1) pa_nil)))) pss_nil), ?_⟩
    refine ⟨_, rfl, b, rfl, ?_⟩
    cases b with
    | true => exact iteF (kT rfl)
    | false =>
      refine iteT ?_
      refine ⟨_, rfl, (by show 1 ≤ 1000; decide), fun a na => ⟨a, c, rfl, upd_same, fun dx nd ne => ⟨rfl, dx, [("code", .int c)], upd_same, ?_, ?_, ?_⟩⟩⟩
      · rw [upd_ne ne, upd_same]
      · rw [upd_ne ne] at nd
        exact nd
      · have nd' : H dx = none := by
          rw [upd_ne ne] at nd
          exact nd
        refine kF rfl _ dx (fun b o e => ?_) nd' upd_same
        have hb : b ≠ dx := ne_of_none e nd'
        have ha : b ≠ a := ne_of_none e na
        rw [upd_ne hb, del_ne ha, upd_ne ha, upd_ne hb, upd_ne ha]
        exact e
end
end SW

namespace SW
open PySem PySem.Spec PyProof.Rows L2
open Sy76 (step ok)
/-- a call's answer as it lies in a list -/
def outV (a : Sy76.Ans) : List V := (Sy76Neutral.out a).map V.int
theorem outV_ok (v : Int) : outV (ok v) = [V.int v] := rfl
/-- what a call on what is owned is worth: the step's answer and state; or a refusal by its code, all as it was -/
def Acts (CR : Addr) (own : Hp → Hp → Sy76.St → Prop) (H0 : Hp) (s : Sy76.St) (x : Sy76.Call) (Q : VK) (E : XK) : Prop :=
  (∀ (H' : Hp) (z : Addr), Same H0 H' → own H0 H' (step s x).1 → H' z = some (.lst (outV (step s x).2)) → Q (.ref z) H') ∧
  ∀ (H' : Hp) (d : Addr) (c : Int), Same H0 H' → own H0 H' s → H' d = some (.xd [("code", .int c)]) → step s x = (s, ok c) → E (.ref CR) (some d) H'
section
variable {P : Program} {w : World} {K : PySem.W.Frag} {mg : Str → Option Value} {base : Heap} {CS CW CR : Addr}
theorem chain15 {σ : L2.St} {H : Hp} {Q : VK} {i n : Nat} (hσ : σ[i]? = some (some (.int (n : Int)))) (h : Q (.bl (isCol n)) H) :
    tChain (rI0 fun i j => .bl (decide (i ≤ j))) (rI0 fun i j => .bl (decide (i ≤ j))) (tC (.int 1)) (tVar i) (tC (.int 5)) σ H Q := by
  refine ⟨_, hσ, _, _, rfl, rfl, _, rfl, ?_⟩
  refine ite2 (fun e => ⟨_, _, rfl, rfl, ?_⟩) (fun e => ?_)
  · have e' : (1 : Int) ≤ (n : Int) := of_decide_eq_true e
    have z : isCol n = decide ((n : Int) ≤ 5) := decide_eq_decide.mpr (by omega)
    show Q (.bl (decide ((n : Int) ≤ 5))) H
    rw [← z]
    exact h
  · have e' : ¬ (1 : Int) ≤ (n : Int) := fun q => e (decide_eq_true q)
    have z : isCol n = false := decide_eq_false (by omega)
    rw [← z]
    exact h
/-! ### begins -/
def spBegins (CW CS CR : Addr) : Sp := fun vs H Q E => ∃ (H0 : Hp) (q : Addr) (s : Sy76.St) (r c : Nat), vs = [.ref q, .int (r : Int), .int (c : Int)] ∧ Same H0 H ∧ WallAt CW CS H0 H q s ∧ Acts CR (fun H0 H' s' => WallAt CW CS H0 H' q s') H0 s (.begins r c) Q E
theorem scBe : FnScope ["wall", "many_rows", "many_columns"] ["wall", "many_rows", "many_columns"] (defScope sBegins) := ⟨rfl, rfl, rfl, by decide +kernel, rfl, by decide +kernel, by decide +kernel⟩
theorem ok_begins {f fN fI : Addr} {fd fdN fdI : FuncData} (F : Fun K "begins" "begins" sBegins f fd) (B : Blt mg) (N5 : Num mg "MOST_SIDE" 5) (N1 : Num mg "OUT_OF_RANGE" (-1)) (S : SurfC K CS) (W : WallC K CW) (gS : mg "Surface" = some (.ref CS)) (M : Mk K CS fI)
    (bI : Binds K fdI ["self", "many_rows", "many_columns"] []) (GI : FnOk P w K mg base CX0 1 fI fdI ["self", "many_rows", "many_columns"] (spSurfI CS)) (GN : Fn P w K mg base (L2.CX P w) 3 "need" fN fdN ["holds", "code"] (spNeed CR)) :
    FnOk P w K mg base (L2.CX P w) 4 f fd ["wall", "many_rows", "many_columns"] (spBegins CW CS CR) := by
  refine F.okX scBe (fun vs H Q E h => ?_) (fun cdv A outer s H vs Q E hr h => ?_)
  · obtain ⟨H0, q, s, r, c, rfl, _⟩ := h
    rfl
  · obtain ⟨H0, q, s, r, c, rfl, s0, hw, kQ, kE⟩ := h
    refine ⟨_, pss_cons (ps_expr (pe_fnX (E := E) GN hr (takes_of rfl rfl rfl rfl) (fun _ _ _ _ h => h) (pa_cons (pe_and (pe_chain op_le op_le pe_int (pv 1) (pe_num N5)) (pe_one (pe_chain op_le op_le pe_int (pv 2) (pe_num N5)))) (pa_cons (pe_num N1) pa_nil))))
      (pss_cons (ps_fld (pv 0) (pe_make M GI (hr.mono (by decide)) rfl gS bI .nil pass0 (pa_cons (pv 1) (pa_cons (pv 2) pa_nil))) rfl)
      (pss_one (ps_ret (pe_lst (pa_cons (pe_len K B (pe_fldK K (pe_fldK K (pv 0)))) pa_nil))))), ?_⟩
    refine chain15 rfl ⟨_, rfl, ?_⟩
    have go : isCol r = true → isCol c = true → step s (.begins r c) = (newSt r c, ok ((r * c : Nat) : Int)) := fun h1 h2 => by
      have h1' := of_decide_eq_true h1
      have h2' := of_decide_eq_true h2
      show (if _ then _ else _) = _
      rw [if_neg (by omega)]
      rfl
    have no : isCol r = false ∨ isCol c = false → step s (.begins r c) = (s, ok (-1)) := fun h => by
      have h' : r < 1 ∨ 5 < r ∨ c < 1 ∨ 5 < c := by
        rcases h with h | h
        · have := of_decide_eq_false h
          omega
        · have := of_decide_eq_false h
          omega
      show (if _ then _ else _) = _
      rw [if_pos h']
    have bad : isCol r = false ∨ isCol c = false → ∀ (H' : Hp) (d : Addr), Same H H' → H d = none → H' d = some (.xd [("code", .int (-1))]) → E (.ref CR) (some d) H' := fun h H' d s1 _ hd => kE H' d (-1) (s0.trans s1) (hw.same s1) hd (no h)
    cases er : isCol r with
    | false =>
      refine iteF ?_
      exact ⟨false, -1, rfl, fun z => (nomatch z), fun _ => bad (.inl er)⟩
    | true =>
      refine iteT ?_
      refine chain15 rfl ?_
      cases ec : isCol c with
      | false => exact ⟨false, -1, rfl, fun z => (nomatch z), fun _ => bad (.inr ec)⟩
      | true =>
        refine ⟨true, -1, rfl, fun _ => ?_, fun z => (nomatch z)⟩
        have st := go er ec
        rw [st] at kQ
        have er' := of_decide_eq_true er
        have ec' := of_decide_eq_true ec
        obtain ⟨n0, dq, p, hq, ho⟩ := hw
        refine ⟨_, rfl, _, rfl, fun x dx nx ndx nex => ?_⟩
        have sN : Same H (upd (upd H dx (.own x)) x (.ins CS dx [])) := fun b o e => by
          rw [upd_ne (ne_of_none e nx), upd_ne (ne_of_none e ndx)]
          exact e
        refine ⟨H, x, dx, r, c, rfl, er'.2, ec'.2, sN, nx, upd_same, fun H1 s1 own => ⟨rfl, ?_⟩⟩
        refine ⟨_, rfl, q, CW, dq, _, rfl, s1 _ _ hq, W.cl, W.nS, (by show 1 < 1000; decide), ?_⟩
        rw [wf1_put]
        have own2 : OwnS CS H (upd H1 q (.ins CW dq (wf1 x))) x (newSt r c) := own.put hq
        obtain ⟨dx2, c2, w2, t2, ts2, hs2, _⟩ := id own2
        refine ⟨_, rfl, q, CW, dq, _, _, rfl, upd_same, W.cl, W.nS, wf1_get x, x, CS, dx2, _, _, rfl, hs2.obj, S.cl, S.nCe, sf_cells .., c2, _, rfl, .inl (SqL.of hs2.cells), line_of (by show 1 ≤ 16777216; decide), fun z hz => ?_⟩
        have s3 : Same (upd H1 q (.ins CW dq (wf1 x))) (upd (upd H1 q (.ins CW dq (wf1 x))) z (.lst [V.int ((nv (newSt r c).wall).length : Nat)])) := same_one hz
        refine kQ _ z ((same_put (s0.trans s1) n0).trans s3) ?_ ?_
        · exact WallAt.same s3 ⟨n0, dq, x, upd_same, own2.weak s0⟩
        · rw [upd_same, nv_len, outV_ok]
          show some (HO.lst [V.int ((List.replicate (r * c) 0).length : Nat)]) = _
          rw [List.length_replicate]
/-! ### spray_done -/
def spSprayDone (CS CR : Addr) : Sp := fun vs H Q E => ∃ (H0 : Hp) (p : Addr) (s : Sy76.St) (k c : Nat), vs = [.ref p, .int (k : Int), .int (c : Int)] ∧ Same H0 H ∧ OwnS CS H0 H p s ∧ WF s ∧ Acts CR (fun H0 H' s' => OwnS CS H0 H' p s') H0 s (.spray k c) Q E
theorem scSD : FnScope ["surface", "stencil", "colour"] ["surface", "stencil", "colour"] (defScope sSprayDone) := ⟨rfl, rfl, rfl, by decide +kernel, rfl, by decide +kernel, by decide +kernel⟩
theorem ok_spray_done {f fN fC fS fM : Addr} {fd fdN fdC fdS fdM : FuncData} (F : Fun K "spray_done" "spray_done" sSprayDone f fd) (B : Blt mg) (N2 : Num mg "NONE_SUCH" (-2)) (N1 : Num mg "OUT_OF_RANGE" (-1)) (S : SurfC K CS)
    (GN : Fn P w K mg base (L2.CX P w) 3 "need" fN fdN ["holds", "code"] (spNeed CR)) (GC : Fn P w K mg base CX0 1 "is_colour" fC fdC ["number"] spIsColour) (GS : Fn P w K mg base CX0 1 "sprayed" fS fdS ["cells", "stencil", "colour"] (spSprayed K))
    (GM : Fn P w K mg base CX0 2 "many_wrong" fM fdM ["surface"] (spManyWrong CS)) : FnOk P w K mg base (L2.CX P w) 4 f fd ["surface", "stencil", "colour"] (spSprayDone CS CR) := by
  refine F.okX scSD (fun vs H Q E h => ?_) (fun cdv A outer s H vs Q E hr h => ?_)
  · obtain ⟨H0, p, s, k, c, rfl, _⟩ := h
    rfl
  · obtain ⟨H0, p, s, k, c, rfl, s0, ho, wf, kQ, kE⟩ := h
    have hr1 : Room 1 _ := hr.mono (by decide)
    refine ⟨_, pss_cons (ps_expr (pe_fnX (E := E) GN hr (takes_of rfl rfl rfl rfl) (fun _ _ _ _ h => h) (pa_cons (pe_cmpR op_lt (pv 1) (pe_len K B (pe_fldK K (pv 0))) (nomark _)) (pa_cons (pe_num N2) pa_nil))))
      (pss_cons (ps_expr (pe_fnX (E := E) GN hr (takes_of rfl rfl rfl rfl) (fun _ _ _ _ h => h) (pa_cons (pe_fn GC hr1 (pa_cons (pv 2) pa_nil)) (pa_cons (pe_num N1) pa_nil))))
      (pss_cons (ps_fld (pv 0) (pe_fn GS hr1 (pa_cons (pe_fldK K (pv 0)) (pa_cons (pe_ixL K (pe_fldK K (pv 0)) (pv 1)) (pa_cons (pv 2) pa_nil)))) rfl)
      (pss_cons (ps_fldaug (pv 0) pe_int in_add)
      (pss_one (ps_ret (pe_lst (pa_cons (pe_fn GM (hr.mono (by decide)) (pa_cons (pv 0) pa_nil)) pa_nil))))))), ?_⟩
    obtain ⟨dx, ca, wa, ta, ts, hs, np, nc, nw, nt, nts⟩ := id ho
    refine ⟨_, rfl, _, rfl, p, CS, dx, _, _, rfl, hs.obj, S.cl, S.nSt, sf_sten .., ta, _, rfl, .inl (SqL.of hs.sten), _, _, rfl, rfl, ?_⟩
    rw [hs.len]
    have e1 : decide ((k : Int) < (s.stencils.length : Nat)) = decide (k < s.stencils.length) := decide_eq_decide.mpr (by omega)
    refine ⟨decide (k < s.stencils.length), -2, (by show [V.bl (decide ((k : Int) < (s.stencils.length : Nat))), V.int (-2)] = _; rw [e1]), fun h1 => ?_, fun h1 H' d s1 _ hd => kE H' d (-2) (s0.trans s1) (ho.same s1) hd ?_⟩
    rotate_left
    · have h1' := of_decide_eq_false h1
      show (if _ then _ else _) = _
      rw [if_pos (by omega)]
    have hk : k < s.stencils.length := of_decide_eq_true h1
    refine ⟨_, rfl, c, rfl, isCol c, -1, rfl, fun h2 => ?_, fun h2 H' d s1 _ hd => kE H' d (-1) (s0.trans s1) (ho.same s1) hd ?_⟩
    rotate_left
    · have h2' := of_decide_eq_false h2
      show (if _ then _ else _) = _
      rw [if_neg (by omega), if_pos (by omega)]
    have hc := of_decide_eq_true h2
    have st : step s (.spray k c) = ({ s with wall := Sy76.sprayed s s.wall (k, c), done := s.done + 1 }, ok ((Sy76.wrong { s with wall := Sy76.sprayed s s.wall (k, c), done := s.done + 1 } (Sy76.sprayed s s.wall (k, c))).length : Nat)) := by
      show (if _ then _ else _) = _
      rw [if_neg (by omega), if_neg (by omega)]
    have w25 := wf.wall25
    obtain ⟨a, ga, ha⟩ := hs.open_ hk
    -- surface.cells = sprayed(..)
    refine ⟨_, rfl, p, CS, dx, _, _, rfl, hs.obj, S.cl, S.nCe, sf_cells .., _, rfl, p, CS, dx, _, _, rfl, hs.obj, S.cl, S.nSt, sf_sten .., _, rfl, ta, _, _, _, rfl, rfl, SqL.of hs.sten, atI_nat ga, _, rfl, ?_⟩
    refine ⟨ca, a, s.wall, Sy76.open_ s k, c, rfl, SqL.of hs.cells, SqL.of ha, by omega, fun H1 z s1 hz hz1 => ?_⟩
    have hs1 := hs.same s1
    refine ⟨_, rfl, p, CS, dx, _, rfl, hs1.obj, S.cl, S.nCe, (by show 6 < 1000; decide), ?_⟩
    rw [sf_put_cells]
    refine ⟨_, rfl, p, CS, dx, _, _, rfl, upd_same, S.cl, S.nSp, sf_sprays .., _, _, rfl, rfl, dx, _, upd_same, (by show 6 < 1000; decide), ?_⟩
    rw [upd_upd, sf_put_sprays]
    have nz : H0 z = none := s0.free hz
    have own2 : OwnS CS H0 (upd H1 p (.ins CS dx (sf s.rows s.cols z wa ta (s.done + 1)))) p { s with wall := Sy76.sprayed s s.wall (k, c), done := s.done + 1 } := by
      have nl : ∀ {b : Addr} {l : List V}, H1 b = some (.lst l) → b ≠ p := fun h => ne_of h hs1.obj (fun z => by cases z)
      refine ⟨dx, z, wa, ta, ts, ⟨upd_same, ?_, ?_, ?_, ?_⟩, np, nz, nw, nt, nts⟩
      · show upd _ _ _ _ = some (.lst (nv (Sy76.sprayed s s.wall (k, c))))
        rw [upd_ne (nl hz1), spr_eq]
        exact hz1
      · rw [upd_ne (nl hs1.wanted)]; exact hs1.wanted
      · rw [upd_ne (nl hs1.sten)]; exact hs1.sten
      · refine paired_imp (fun a l q => ?_) hs1.each
        show upd _ _ _ _ = _
        rw [upd_ne (nl q)]
        exact q
    have s02 : Same H0 (upd H1 p (.ins CS dx (sf s.rows s.cols z wa ta (s.done + 1)))) := same_put (s0.trans s1) np
    have wf2 : WF { s with wall := Sy76.sprayed s s.wall (k, c), done := s.done + 1 } := by
      have := step_wf (x := .spray k c) wf trivial
      rw [st] at this
      exact this
    refine ⟨_, rfl, p, _, rfl, own2.surf, by rw [wf2.wall, wf2.pic]; exact Nat.le_refl _, by have := wf2.wall25; omega, fun H2 s2 => ?_⟩
    refine ⟨line_of (by show 1 ≤ 16777216; decide), fun zz hzz => ?_⟩
    rw [st] at kQ
    have s3 := s2.trans (same_one (o := .lst [V.int ((Sy76.wrong { s with wall := Sy76.sprayed s s.wall (k, c), done := s.done + 1 } (Sy76.sprayed s s.wall (k, c))).length : Nat)]) hzz)
    exact kQ _ zz (s02.trans s3) (own2.same s3) upd_same
end
end SW

namespace SW
open PySem PySem.Spec PyProof.Rows L2
open Sy76 (step ok)
section
variable {P : Program} {w : World} {K : PySem.W.Frag} {mg : Str → Option Value} {base : Heap} {CS CW CR : Addr}
/-! ### washed -/
def spWashed (CS : Addr) : Sp := fun vs H Q _ => ∃ (H0 : Hp) (p : Addr) (s : Sy76.St), vs = [.ref p] ∧ Same H0 H ∧ OwnS CS H0 H p s ∧ WF s ∧
  ∀ (H' : Hp) (z : Addr), Same H0 H' → OwnS CS H0 H' p (step s .wash).1 → H' z = some (.lst (outV (step s .wash).2)) → Q (.ref z) H'
theorem scWa : FnScope ["surface"] ["surface"] (defScope sWashed) := ⟨rfl, rfl, rfl, by decide +kernel, rfl, by decide +kernel, by decide +kernel⟩
theorem ok_washed {f fM : Addr} {fd fdM : FuncData} (F : Fun K "washed" "washed" sWashed f fd) (B : Blt mg) (N0 : Num mg "BARE" 0) (S : SurfC K CS)
    (GM : Fn P w K mg base CX0 2 "many_wrong" fM fdM ["surface"] (spManyWrong CS)) : FnOk P w K mg base CX0 3 f fd ["surface"] (spWashed CS) := by
  refine F.ok scWa (fun vs H Q E h => ?_) (fun cdv A outer s H vs Q E hr h => ?_)
  · obtain ⟨H0, p, s, rfl, _⟩ := h
    rfl
  · obtain ⟨H0, p, s, rfl, s0, ho, wf, kQ⟩ := h
    refine ⟨_, pss_cons (ps_fld (pv 0) (pe_op op_rep (pe_lst (pa_cons (pe_num N0) pa_nil)) (pe_len K B (pe_fldK K (pv 0)))) rfl)
      (pss_one (ps_ret (pe_lst (pa_cons (pe_fn GM hr (pa_cons (pv 0) pa_nil)) pa_nil)))), ?_⟩
    obtain ⟨dx, ca, wa, ta, ts, hs, np, nc, nw, nt, nts⟩ := id ho
    have w25 := wf.wall25
    have wsz : s.wall.length = Sy76.size s := wf.wall
    refine ⟨line_of (by show 1 ≤ 16777216; decide), fun t1 ht1 => ?_⟩
    have s1 : Same H (upd H t1 (.lst [V.int 0])) := same_one ht1
    have hs1 := hs.same s1
    refine ⟨_, rfl, p, CS, dx, _, _, rfl, hs1.obj, S.cl, S.nCe, sf_cells .., ca, _, rfl, .inl (SqL.of hs1.cells), t1, _, _, rfl, rfl, upd_same, by rw [nv_len]; omega, by rw [nv_len]; omega, ?_, fun z hz => ?_⟩
    · rw [nv_len]
      exact line_of (by show 1 * s.wall.length ≤ 16777216; omega)
    have en : ((nv s.wall).length : Int).toNat = Sy76.size s := by rw [nv_len]; omega
    rw [en, rep_nv]
    have s2 := s1.trans (same_one (o := .lst (nv (List.replicate (Sy76.size s) 0))) hz)
    have hz1 : (upd (upd H t1 (.lst [V.int 0])) z (.lst (nv (List.replicate (Sy76.size s) 0)))) z = some (.lst (nv (List.replicate (Sy76.size s) 0))) := upd_same
    have nz : H0 z = none := (s0.trans s1).free hz
    generalize (upd (upd H t1 (.lst [V.int 0])) z (.lst (nv (List.replicate (Sy76.size s) 0)))) = H1 at s2 hz1 ⊢
    have hs2 := hs.same s2
    refine ⟨_, rfl, p, CS, dx, _, rfl, hs2.obj, S.cl, S.nCe, (by show 6 < 1000; decide), ?_⟩
    rw [sf_put_cells]
    have own2 : OwnS CS H0 (upd H1 p (.ins CS dx (sf s.rows s.cols z wa ta s.done))) p { s with wall := List.replicate (Sy76.size s) 0 } := by
      have nl : ∀ {b : Addr} {l : List V}, H1 b = some (.lst l) → b ≠ p := fun h => ne_of h hs2.obj (fun z => by cases z)
      refine ⟨dx, z, wa, ta, ts, ⟨upd_same, ?_, ?_, ?_, ?_⟩, np, nz, nw, nt, nts⟩
      · rw [upd_ne (nl hz1)]; exact hz1
      · rw [upd_ne (nl hs2.wanted)]; exact hs2.wanted
      · rw [upd_ne (nl hs2.sten)]; exact hs2.sten
      · refine paired_imp (fun a l q => ?_) hs2.each
        show upd _ _ _ _ = _
        rw [upd_ne (nl q)]
        exact q
    have s02 : Same H0 (upd H1 p (.ins CS dx (sf s.rows s.cols z wa ta s.done))) := same_put (s0.trans s2) np
    have wf2 : WF { s with wall := List.replicate (Sy76.size s) 0 } := step_wf (x := .wash) wf trivial
    refine ⟨_, rfl, p, _, rfl, own2.surf, by rw [wf2.wall, wf2.pic]; exact Nat.le_refl _, by have := wf2.wall25; omega, fun H2 s3 => ?_⟩
    refine ⟨line_of (by show 1 ≤ 16777216; decide), fun zz hzz => ?_⟩
    have s4 := s3.trans (same_one (o := .lst [V.int ((Sy76.wrong { s with wall := List.replicate (Sy76.size s) 0 } (List.replicate (Sy76.size s) 0)).length : Nat)]) hzz)
    exact kQ _ zz (s02.trans s4) (own2.same s4) upd_same
/-! ### picture_set -/
theorem bnat {a b : Nat} : decide (V.int (a : Int) = V.int (b : Int)) = decide (a = b) := by
  refine decide_eq_decide.mpr ⟨fun h => by injection h with h; omega, fun h => by rw [h]⟩
abbrev nPS : List Str := ["surface", "wanted", "fits", "colour"]
def spPictureSet (CS CR : Addr) : Sp := fun vs H Q E => ∃ (H0 : Hp) (p r : Addr) (s : Sy76.St) (l : List Nat), vs = [.ref p, .ref r] ∧ Same H0 H ∧ OwnS CS H0 H p s ∧ WF s ∧ SqL K H r (nv l) ∧ l.length ≤ 60 ∧ Acts CR (fun H0 H' s' => OwnS CS H0 H' p s') H0 s (.picture l) Q E
theorem scPS : FnScope nPS ["surface", "wanted"] (defScope sPictureSet) := ⟨rfl, rfl, rfl, by decide +kernel, rfl, by decide +kernel, by decide +kernel⟩
theorem ok_picture_set {f fN fM : Addr} {fd fdN fdM : FuncData} (F : Fun K "picture_set" "picture_set" sPictureSet f fd) (B : Blt mg) (N5 : Num mg "MOST_COLOURS" 5) (N1 : Num mg "OUT_OF_RANGE" (-1)) (S : SurfC K CS)
    (GN : Fn P w K mg base (L2.CX P w) 3 "need" fN fdN ["holds", "code"] (spNeed CR)) (GM : Fn P w K mg base CX0 2 "many_wrong" fM fdM ["surface"] (spManyWrong CS)) : FnOk P w K mg base (L2.CX P w) 4 f fd ["surface", "wanted"] (spPictureSet (K := K) CS CR) := by
  refine F.okX scPS (fun vs H Q E h => ?_) (fun cdv A outer s H vs Q E hr h => ?_)
  · obtain ⟨H0, p, r, s, l, rfl, _⟩ := h
    rfl
  · obtain ⟨H0, p, r, s, l, rfl, s0, ho, wf, hr0, hl, kQ, kE⟩ := h
    refine ⟨_, pss_cons (ps_set (i := 2) scPS.nd rfl (Or.inl rfl) (pe_and (pe_cmpR op_eq (pe_len K B (pv 1)) (pe_len K B (pe_fldK K (pv 0))) (nomark _)) (pe_one (pe_all K B rfl (pe_lc (own := [("colour", 3)]) (g := gName 3) (by rfl) scPS.nd
        (pi_listK K (pv 1))
        (blkOk_by (own := [("colour", 3)]) (N := nPS) (sc := defScope sPictureSet) (by decide +kernel))
        (fun _ _ _ _ _ => pg_name (i := 3) scPS.nd rfl (Or.inl rfl))
        (fun _ _ _ _ _ => pts_nil)
        (fun _ _ _ _ _ => pe_cmpR op_le (pv 3) (pe_num N5) (nomark _)))))))
      (pss_cons (ps_expr (pe_fnX (E := E) GN hr (takes_of rfl rfl rfl rfl) (fun _ _ _ _ h => h) (pa_cons (pv 2) (pa_cons (pe_num N1) pa_nil))))
      (pss_cons (ps_fld (pv 0) (pe_callTy call_list_of (by rfl) B.list (by decide +kernel) (pa_cons (pv 1) pa_nil)) rfl)
      (pss_one (ps_ret (pe_lst (pa_cons (pe_fn GM (hr.mono (by decide)) (pa_cons (pv 0) pa_nil)) pa_nil)))))), ?_⟩
    obtain ⟨dx, ca, wa, ta, ts, hs, np, nc, nw, nt, nts⟩ := id ho
    have wsz : s.wall.length = Sy76.size s := wf.wall
    -- behind fits
    have fin : ∀ (H1 : Hp) (b : Bool), Same H H1 → b = (decide (l.length = s.wall.length) && l.all fun c => decide (c ≤ 5)) →
        (tSeq (tDrop (tCall (spNeed CR) [] E (tCons (tVar 2) (tCons (tC (.int (-1))) tNil)))) (tSeq (sFld K (tVar 0) (tCB (fun xs H Q => ∃ p ys, xs = [.ref p] ∧ (SqL K H p ys ∨ SqT K H p ys) ∧ ∀ l, H l = none → Q (.ref l) (upd H l (.lst ys))) (tCons (tVar 1) tNil)) "wanted") (tRet (tLst (tCons (tCall (spManyWrong CS) [] E0 (tCons (tVar 0) tNil)) tNil)))))
          { nx := fun _ H' => Q .non H', rt := Q } [some (.ref p), some (.ref r), some (.bl b), none] H1 := by
      intro H1 b s1 eb
      refine ⟨_, rfl, b, -1, rfl, fun hb => ?_, fun hb H' d s2 _ hd => kE H' d (-1) ((s0.trans s1).trans s2) ((ho.same s1).same s2) hd ?_⟩
      rotate_left
      · rw [hb] at eb
        show (if _ then _ else _) = _
        rw [if_pos ?_]
        by_cases c1 : l.length = s.wall.length
        · right
          have c2 : (l.all fun c => decide (c ≤ 5)) = false := by simpa [c1] using eb.symm
          rw [List.all_eq_false] at c2
          obtain ⟨x, hx, hx2⟩ := c2
          rw [List.any_eq_true]
          exact ⟨x, hx, decide_eq_true (by simpa using hx2)⟩
        · left
          rw [← wsz]
          exact c1
      rw [hb] at eb
      have eb2 := eb.symm
      rw [Bool.and_eq_true] at eb2
      have c1 : l.length = s.wall.length := of_decide_eq_true eb2.1
      have c2 : ∀ x ∈ l, x ≤ 5 := fun x hx => of_decide_eq_true (List.all_eq_true.mp eb2.2 x hx)
      have st : step s (.picture l) = ({ s with picture := l }, ok ((Sy76.wrong { s with picture := l } s.wall).length : Nat)) := by
        show (if _ then _ else _) = _
        rw [if_neg ?_]
        rintro (z | z)
        · exact z (by rw [← wsz]; exact c1)
        · obtain ⟨x, hx, hx2⟩ := List.any_eq_true.mp z
          have h5 := of_decide_eq_true hx2
          have := c2 x hx
          omega
      refine ⟨_, rfl, r, nv l, rfl, .inl (s1.seq hr0), fun z hz => ?_⟩
      have s2 := s1.trans (same_one (o := .lst (nv l)) hz)
      have hz1 : (upd H1 z (.lst (nv l))) z = some (.lst (nv l)) := upd_same
      have nz : H0 z = none := (s0.trans s1).free hz
      generalize (upd H1 z (.lst (nv l))) = H2 at s2 hz1 ⊢
      have hs2 := hs.same s2
      refine ⟨_, rfl, p, CS, dx, _, rfl, hs2.obj, S.cl, S.nW, (by show 6 < 1000; decide), ?_⟩
      rw [sf_put_wanted]
      have own2 : OwnS CS H0 (upd H2 p (.ins CS dx (sf s.rows s.cols ca z ta s.done))) p { s with picture := l } := by
        have nl : ∀ {b : Addr} {l : List V}, H2 b = some (.lst l) → b ≠ p := fun h => ne_of h hs2.obj (fun z => by cases z)
        refine ⟨dx, ca, z, ta, ts, ⟨upd_same, ?_, ?_, ?_, ?_⟩, np, nc, nz, nt, nts⟩
        · rw [upd_ne (nl hs2.cells)]; exact hs2.cells
        · rw [upd_ne (nl hz1)]; exact hz1
        · rw [upd_ne (nl hs2.sten)]; exact hs2.sten
        · refine paired_imp (fun a l q => ?_) hs2.each
          show upd _ _ _ _ = _
          rw [upd_ne (nl q)]
          exact q
      have s02 : Same H0 (upd H2 p (.ins CS dx (sf s.rows s.cols ca z ta s.done))) := same_put (s0.trans s2) np
      have wf2 : WF { s with picture := l } := by
        have := step_wf (x := .picture l) wf hl
        rw [st] at this
        exact this
      refine ⟨_, rfl, p, _, rfl, own2.surf, by rw [wf2.wall, wf2.pic]; exact Nat.le_refl _, by have := wf2.wall25; omega, fun H3 s3 => ?_⟩
      refine ⟨line_of (by show 1 ≤ 16777216; decide), fun zz hzz => ?_⟩
      rw [st] at kQ
      have s4 := s3.trans (same_one (o := .lst [V.int ((Sy76.wrong { s with picture := l } s.wall).length : Nat)]) hzz)
      exact kQ _ zz (s02.trans s4) (own2.same s4) upd_same
    refine ⟨_, rfl, r, _, rfl, .inl hr0, _, rfl, p, CS, dx, _, _, rfl, hs.obj, S.cl, S.nCe, sf_cells .., ca, _, rfl, .inl (SqL.of hs.cells), rfl, _, rfl, ?_⟩
    rw [nv_len, nv_len, bnat]
    by_cases c1 : l.length = s.wall.length
    · rw [decide_eq_true c1]
      refine iteT ?_
      refine ⟨_, rfl, r, rfl, ⟨_, hr0⟩, fun D hD => ?_⟩
      refine lc_list_of (xs := nv l) (fun i => some (.bl (decide (l.getD i 0 ≤ 5)))) hD hr0 (by rw [nv_len]; omega) (fun i x H1 hx s1 Yes No hy hno => ?_) fun H1 s1 hD1 => ?_
      · obtain ⟨hi, rfl⟩ := nv_of hx
        refine ⟨rfl, yes_go ?_⟩
        refine ⟨_, rfl, _, _, rfl, rfl, hy _ _ (Same.refl _) ?_⟩
        show some (V.bl _) = some (V.bl _)
        rw [show decide ((l.getD i 0 : Nat) ≤ 5) = decide (((l.getD i 0 : Nat) : Int) ≤ 5) from decide_eq_decide.mpr (by omega)]
      · have e5 : H1 D = some (.lst ((l.map fun x => decide (x ≤ 5)).map V.bl)) := by
          rw [hD1, nv_len, picks_all l (fun x => V.bl (decide (x ≤ 5))) _ (fun i x hx => by rw [List.getD_eq_getElem?_getD, hx]; rfl), List.map_map]
          rfl
        refine ⟨D, _, rfl, SqL.of e5, ?_⟩
        refine fin H1 _ s1 ?_
        rw [decide_eq_true c1, Bool.true_and, List.all_map]
        rfl
    · rw [decide_eq_false c1]
      refine iteF ?_
      refine fin H false (Same.refl _) ?_
      rw [decide_eq_false c1]
      rfl
end
end SW

namespace SW
open PySem PySem.Spec PyProof.Rows L2
open Sy76 (step ok)
section
variable {P : Program} {w : World} {K : PySem.W.Frag} {mg : Str → Option Value} {base : Heap} {CS CW CR : Addr}
/-! ### stencil_put -/
theorem ref_nv {a : Addr} {rs : List V} {l : List Nat} (h : V.ref a :: rs = nv l) : False := by
  cases l with
  | nil => cases h
  | cons n l =>
    injection h with h1 _
    cases h1
abbrev nSt : List Str := ["surface", "cells", "cell"]
def spStencilPut (K : PySem.W.Frag) (CS CR : Addr) : Sp := fun vs H Q E => ∃ (H0 : Hp) (p r : Addr) (s : Sy76.St) (l : List Nat), vs = [.ref p, .ref r] ∧ Same H0 H ∧ OwnS CS H0 H p s ∧ WF s ∧ SqL K H r (nv l) ∧ l.length ≤ 60 ∧ Acts CR (fun H0 H' s' => OwnS CS H0 H' p s') H0 s (.stencil l) Q E
theorem scSt : FnScope nSt ["surface", "cells"] (defScope sStencilPut) := ⟨rfl, rfl, rfl, by decide +kernel, rfl, by decide +kernel, by decide +kernel⟩
theorem ok_stencil_put {f fN : Addr} {fd fdN : FuncData} (F : Fun K "stencil_put" "stencil_put" sStencilPut f fd) (B : Blt mg) (N5 : Num mg "MOST_STENCILS" 5) (N1 : Num mg "OUT_OF_RANGE" (-1)) (NT : Num mg "TOO_MANY" (-5)) (S : SurfC K CS)
    (GN : Fn P w K mg base (L2.CX P w) 3 "need" fN fdN ["holds", "code"] (spNeed CR)) : FnOk P w K mg base (L2.CX P w) 4 f fd ["surface", "cells"] (spStencilPut K CS CR) := by
  refine F.okX scSt (fun vs H Q E h => ?_) (fun cdv A outer s H vs Q E hr h => ?_)
  · obtain ⟨H0, p, r, s, l, rfl, _⟩ := h
    rfl
  · obtain ⟨H0, p, r, s, l, rfl, s0, ho, wf, hr0, hl, kQ, kE⟩ := h
    refine ⟨_, pss_cons (ps_expr (pe_fnX (E := E) GN hr (takes_of rfl rfl rfl rfl) (fun _ _ _ _ h => h) (pa_cons (pe_and (pe_cmpR (op_neD hr.units) (pv 1) (pe_lst pa_nil) (nomark _)) (pe_one (pe_all K B rfl (pe_lc (own := [("cell", 2)]) (g := gName 2) (by rfl) scSt.nd
        (pi_listK K (pv 1))
        (blkOk_by (own := [("cell", 2)]) (N := nSt) (sc := defScope sStencilPut) (by decide +kernel))
        (fun _ _ _ _ _ => pg_name (i := 2) scSt.nd rfl (Or.inl rfl))
        (fun _ _ _ _ _ => pts_nil)
        (fun _ _ _ _ _ => pe_cmpR op_lt (pv 2) (pe_len K B (pe_fldK K (pv 0))) (nomark _)))))) (pa_cons (pe_num N1) pa_nil))))
      (pss_cons (ps_expr (pe_fnX (E := E) GN hr (takes_of rfl rfl rfl rfl) (fun _ _ _ _ h => h) (pa_cons (pe_cmpR op_lt (pe_len K B (pe_fldK K (pv 0))) (pe_num N5) (nomark _)) (pa_cons (pe_num NT) pa_nil))))
      (pss_cons (ps_expr (pe_bm PySem.F.plainAttrs_list PySem.F.slot_list_append PySem.F.type_list_append mt_append (pe_fldK K (pv 0)) (pa_cons (pe_callB (cr_sortedSet rfl) (by rfl) B.sorted (by decide +kernel) (pa_cons (pe_callTy (cr_setInts rfl) (by rfl) B.set (by decide +kernel) (pa_cons (pv 1) pa_nil)) pa_nil)) pa_nil)))
      (pss_one (ps_ret (pe_lst (pa_cons (pe_op op_sub (pe_len K B (pe_fldK K (pv 0))) pe_int) pa_nil)))))), ?_⟩
    obtain ⟨dx, ca, wa, ta, ts, hs, np, nc, nw, nt, nts⟩ := id ho
    have wsz : s.wall.length = Sy76.size s := wf.wall
    have w1 : 1 ≤ s.wall.length := by rw [wf.wall]; exact Nat.mul_le_mul wf.r1 wf.c1
    have no1 : (l.isEmpty = true ∨ (l.all fun i => decide (i < s.wall.length)) = false) → step s (.stencil l) = (s, ok (-1)) := fun h => by
      show (if _ then _ else _) = _
      rw [if_pos ?_]
      rcases h with h | h
      · exact .inl h
      · right
        rw [List.all_eq_false] at h
        obtain ⟨x, hx, hx2⟩ := h
        rw [List.any_eq_true]
        refine ⟨x, hx, decide_eq_true ?_⟩
        have h9 : ¬ x < s.wall.length := fun z => hx2 (decide_eq_true z)
        omega
    -- behind the first need
    have fin : ∀ (H1 : Hp), Same H H1 → l.isEmpty = false → (l.all fun i => decide (i < s.wall.length)) = true →
        (tSeq (tDrop (tCall (spNeed CR) [] E (tCons (tOp (rI0 fun i j => .bl (decide (i < j))) (tCB (rLen K) (tCons (tFld K (tVar 0) "stencils") tNil)) (tC (.int 5))) (tCons (tC (.int (-5))) tNil))))
          (tSeq (tDrop (tBM K "list" rAppend (tFld K (tVar 0) "stencils") (tCons (tCB (rSortedSet w) (tCons (tCB (rSetInts K w) (tCons (tVar 1) tNil)) tNil)) tNil)))
            (tRet (tLst (tCons (tOp (rI0 fun i j => .int (i - j)) (tCB (rLen K) (tCons (tFld K (tVar 0) "stencils") tNil)) (tC (.int 1))) tNil)))))
          { nx := fun _ H' => Q .non H', rt := Q } [some (.ref p), some (.ref r), none] H1 := by
      intro H1 s1 c1 c2
      have hs1 := hs.same s1
      refine ⟨_, rfl, p, CS, dx, _, _, rfl, hs1.obj, S.cl, S.nSt, sf_sten .., ta, _, rfl, .inl (SqL.of hs1.sten), _, _, rfl, rfl, ?_⟩
      have e1 : decide ((((ts.map V.ref).length : Nat) : Int) < 5) = decide (s.stencils.length < 5) := by
        rw [hs.len]
        exact decide_eq_decide.mpr (by omega)
      have cond : ¬ (l.isEmpty = true ∨ (l.any fun (i : Nat) => decide (Sy76.size s ≤ i)) = true) := by
        rintro (z | z)
        · rw [c1] at z
          cases z
        · obtain ⟨x, hx, hx2⟩ := List.any_eq_true.mp z
          have h5 := of_decide_eq_true hx2
          have h6 := of_decide_eq_true (List.all_eq_true.mp c2 x hx)
          omega
      refine ⟨decide (s.stencils.length < 5), -5, (by show [V.bl (decide ((((ts.map V.ref).length : Nat) : Int) < 5)), V.int (-5)] = _; rw [e1]), fun h1 => ?_, fun h1 H' d s2 _ hd => kE H' d (-5) ((s0.trans s1).trans s2) ((ho.same s1).same s2) hd ?_⟩
      rotate_left
      · have h1' := of_decide_eq_false h1
        show (if _ then _ else _) = _
        rw [if_neg cond, if_pos (by omega)]
      have h5 := of_decide_eq_true h1
      have st : step s (.stencil l) = ({ s with stencils := s.stencils ++ [Sy76.sortedOf l] }, ok (s.stencils.length : Nat)) := by
        show (if _ then _ else _) = _
        rw [if_neg cond, if_neg (by omega)]
      -- surface.stencils.append(sorted(set(cells)))
      have hr1 : SqL K H1 r ((l.map fun (n : Nat) => (n : Int)).map V.int) := by rw [← nv_ints]; exact s1.seq hr0
      refine ⟨_, rfl, p, CS, dx, _, _, rfl, hs1.obj, S.cl, S.nSt, sf_sten .., .inl ⟨rfl, _, SqL.of hs1.sten⟩, _, rfl, r, _, rfl, hr1, ?_, fun e cn he hcn => ?_⟩
      · rw [List.length_map]
        exact Nat.lt_of_le_of_lt (show l.length + 1 ≤ 61 by omega) (by decide)
      rw [List.length_map] at hcn
      refine ⟨e, _, cn, rfl, upd_same, by omega, fun ns z up mem _ hz => ?_⟩
      have ens := rising_is (l := l) up fun k => (mem k).trans decide_eq_true_iff
      subst ens
      rw [← nv_ints]
      have s2 := (same_one (o := SetO w e (fun j => decide (j ∈ l.map fun (n : Nat) => (n : Int))) cn) he).trans (same_one (o := .lst (nv (Sy76.sortedOf l))) hz)
      have hz1 : (upd (upd H1 e (SetO w e (fun j => decide (j ∈ l.map fun (n : Nat) => (n : Int))) cn)) z (.lst (nv (Sy76.sortedOf l)))) z = some (.lst (nv (Sy76.sortedOf l))) := upd_same
      have nz1 : H1 z = none := (same_one he).free hz
      have nz : H0 z = none := (s0.trans s1).free nz1
      generalize (upd (upd H1 e (SetO w e (fun j => decide (j ∈ l.map fun (n : Nat) => (n : Int))) cn)) z (.lst (nv (Sy76.sortedOf l)))) = H2 at s2 hz1 ⊢
      have hs2 := hs1.same s2
      refine ⟨ta, _, _, rfl, rfl, hs2.sten, ?_, ?_⟩
      · rw [List.length_map, paired_len hs2.each]
        exact line_lt (by omega)
      have own2 : OwnS CS H0 (upd H2 ta (.lst (ts.map V.ref ++ [V.ref z]))) p { s with stencils := s.stencils ++ [Sy76.sortedOf l] } := by
        have pt : p ≠ ta := (ne_of hs2.sten hs2.obj (fun z => by cases z)).symm
        have lt : ∀ {b : Addr} {m : List Nat}, H2 b = some (.lst (nv m)) → 1 ≤ m.length → b ≠ ta := fun {b m} hb hm e => by
          rw [e, hs2.sten] at hb
          injection hb with hb
          injection hb with hb
          cases ts with
          | nil =>
            have := congrArg List.length hb
            rw [nv_len] at this
            simp at this
            omega
          | cons t0 ts0 => exact ref_nv hb
        have stt : ∀ (tz : Addr), tz ∈ ts → tz ≠ ta := fun tz htz e => by
          obtain ⟨i, hi⟩ := List.mem_iff_getElem?.mp htz
          obtain ⟨m, _, hm⟩ := paired_get' hs2.each hi
          have hm' : H2 tz = some (.lst (nv m)) := hm
          rw [e, hs2.sten] at hm'
          injection hm' with hb
          injection hb with hb
          cases ts with
          | nil => simp at htz
          | cons t0 ts0 => exact ref_nv hb
        have zt : z ≠ ta := fun e => by
          rw [e] at nz1
          rw [hs1.sten] at nz1
          cases nz1
        have keepS : ∀ {bs : List Addr} {q : List (List Nat)}, (∀ x ∈ bs, x ≠ ta) → Paired (StenAt H2) bs q → Paired (StenAt (upd H2 ta (.lst (ts.map V.ref ++ [V.ref z])))) bs q := by
          intro bs q hne hq
          induction hq with
          | nil => exact .nil
          | cons r t ih =>
            refine .cons ?_ (ih fun x hx => hne x (List.mem_cons_of_mem _ hx))
            show upd _ _ _ _ = _
            rw [upd_ne (hne _ List.mem_cons_self)]
            exact r
        refine ⟨dx, ca, wa, ta, ts ++ [z], ⟨?_, ?_, ?_, ?_, ?_⟩, np, nc, nw, nt, ?_⟩
        · rw [upd_ne pt]; exact hs2.obj
        · rw [upd_ne (lt hs2.cells w1)]; exact hs2.cells
        · rw [upd_ne (lt hs2.wanted (by rw [wf.pic, ← wf.wall]; exact w1))]; exact hs2.wanted
        · rw [upd_same, List.map_append]; rfl
        · refine paired_snoc (keepS stt hs2.each) ?_
          show upd _ _ _ _ = _
          rw [upd_ne zt]
          exact hz1
        · intro a ha
          rcases List.mem_append.mp ha with ha | ha
          · exact nts a ha
          · have e : a = z := by simpa using ha
            rw [e]
            exact nz
      have s02 : Same H0 (upd H2 ta (.lst (ts.map V.ref ++ [V.ref z]))) := same_put ((s0.trans s1).trans s2) nt
      generalize (upd H2 ta (.lst (ts.map V.ref ++ [V.ref z]))) = H3 at own2 s02 ⊢
      obtain ⟨dx3, ca3, wa3, ta3, ts3, hs3, _⟩ := id own2
      refine ⟨_, rfl, p, CS, dx3, _, _, rfl, hs3.obj, S.cl, S.nSt, sf_sten .., ta3, _, rfl, .inl (SqL.of hs3.sten), _, _, rfl, rfl, line_of (by show 1 ≤ 16777216; decide), fun zz hzz => ?_⟩
      have en : (((ts3.map V.ref).length : Nat) : Int) - 1 = (s.stencils.length : Nat) := by
        rw [hs3.len, List.length_append, List.length_singleton]
        omega
      rw [st] at kQ
      have s4 := same_one (o := .lst [V.int ((((ts3.map V.ref).length : Nat) : Int) - 1)]) hzz
      refine kQ _ zz (s02.trans s4) (own2.same s4) ?_
      show upd _ _ (.lst [V.int ((((ts3.map V.ref).length : Nat) : Int) - 1)]) _ = _
      rw [upd_same, en]
      rfl
    -- the first need
    refine ⟨_, rfl, Nat.zero_le _, fun e he => ?_⟩
    have s1 : Same H (upd H e (.lst [])) := same_one he
    refine ⟨_, _, Dp.lst (s1.seq hr0) (dpAll_nv _), Dp.lst (SqL.of upd_same) .nil, shaped_ints _, shaped_nil, _, rfl, ?_⟩
    rw [eqv_nil]
    have ee : (l.map fun (n : Nat) => PyData.int (n : Int)).isEmpty = l.isEmpty := by cases l <;> rfl
    rw [ee]
    cases ec : l.isEmpty with
    | true =>
      refine iteF ?_
      exact ⟨false, -1, rfl, fun z => (nomatch z), fun _ H' d s2 _ hd => kE H' d (-1) ((s0.trans s1).trans s2) ((ho.same s1).same s2) hd (no1 (.inl ec))⟩
    | false =>
      refine iteT ?_
      refine ⟨_, rfl, r, rfl, ⟨_, s1.seq hr0⟩, fun D hD => ?_⟩
      refine lc_list_of (xs := nv l) (fun i => some (.bl (decide (l.getD i 0 < s.wall.length)))) hD (s1.seq hr0) (by rw [nv_len]; omega) (fun i x H1 hx s2 Yes No hy hno => ?_) fun H1 s2 hD1 => ?_
      · obtain ⟨hi, rfl⟩ := nv_of hx
        have hs2 := hs.same (s1.trans s2)
        refine ⟨rfl, yes_go ?_⟩
        refine ⟨_, rfl, _, rfl, p, CS, dx, _, _, rfl, hs2.obj, S.cl, S.nCe, sf_cells .., ca, _, rfl, .inl (SqL.of hs2.cells), _, _, rfl, rfl, hy _ _ (Same.refl _) ?_⟩
        show some (V.bl _) = some (V.bl _)
        rw [nv_len, show decide ((l.getD i 0 : Nat) < s.wall.length) = decide (((l.getD i 0 : Nat) : Int) < ((s.wall.length : Nat) : Int)) from decide_eq_decide.mpr (by omega)]
      · have e5 : H1 D = some (.lst ((l.map fun x => decide (x < s.wall.length)).map V.bl)) := by
          rw [hD1, nv_len, picks_all l (fun x => V.bl (decide (x < s.wall.length))) _ (fun i x hx => by rw [List.getD_eq_getElem?_getD, hx]; rfl), List.map_map]
          rfl
        refine ⟨D, _, rfl, SqL.of e5, ?_⟩
        have e6 : ((l.map fun x => decide (x < s.wall.length)).all id) = l.all fun i => decide (i < s.wall.length) := by
          rw [List.all_map]
          rfl
        rw [e6]
        cases ea : (l.all fun i => decide (i < s.wall.length)) with
        | false => exact ⟨false, -1, rfl, fun z => (nomatch z), fun _ H' d s3 _ hd => kE H' d (-1) (((s0.trans s1).trans s2).trans s3) (((ho.same s1).same s2).same s3) hd (no1 (.inr ea))⟩
        | true => exact ⟨true, -1, rfl, fun _ => fin H1 (s1.trans s2) ec ea, fun z => (nomatch z)⟩
end
end SW

namespace SW
open PySem PySem.Spec PyProof.Rows L2
open Sy76 (step ok)
section
variable {P : Program} {w : World} {K : PySem.W.Frag} {mg : Str → Option Value} {base : Heap} {CS CW CR : Addr}
theorem pg_tupK {X : Cx} (K : PySem.W.Frag) {es : List Expr} {k : Nat} {t : TGs} {n : Nat} {pos : Pos} (hc : X.calm = true) (h : PGs X es t)
    (hn : (assignEach es X.env).length = n := by rfl) (hst : (assignEach es X.env).findIdx? (·.1) = none := by rfl) (hK : X.K = K := by rfl) : PG X (.Tuple es k pos) (gTup K n t) := by
  subst hK
  exact pg_tup hc h hn hst
/-- plans != [] -/
theorem plans_ne {H : Hp} {a : Addr} {ps : List Row} {Q : VK} (h : PlansAt H a ps) (q : ∀ H', Same H H' → Q (.bl (!decide (ps = []))) H') :
    ∀ e, H e = none → rNeD K (.ref a) (.ref e) (upd H e (.lst [])) Q := fun e he => by
  have s1 : Same H (upd H e (.lst [])) := same_one he
  obtain ⟨as, h1, h2⟩ := h.same s1
  refine ⟨_, _, Dp.lst (SqL.of h1) (dp_plans h2), Dp.lst (SqL.of upd_same) .nil, shaped_plans _, shaped_nil, ?_⟩
  rw [eqv_nil]
  have ee : (ps.map encRow).isEmpty = decide (ps = []) := by cases ps <;> simp
  rw [ee]
  exact q _ s1
theorem PlansAt.get {H : Hp} {a : Addr} {ps : List Row} (h : PlansAt H a ps) : ∃ as : List Addr, H a = some (.lst (as.map V.ref)) ∧ as.length = ps.length ∧ ∀ (i : Nat) p, ps[i]? = some p → ∃ b, (as.map V.ref)[i]? = some (V.ref b) ∧ PlanAt H b p := by
  obtain ⟨as, h1, h2⟩ := h
  refine ⟨as, h1, paired_len h2, fun i p hp => ?_⟩
  obtain ⟨b, hb, hb2⟩ := paired_get h2 hp
  exact ⟨b, by rw [List.getElem?_map, hb]; rfl, hb2⟩
/-! ### fewest_told -/
abbrev nFT : List Str := ["surface", "plans"]
theorem scFT : FnScope nFT ["surface"] (defScope sFewestTold) := ⟨rfl, rfl, rfl, by decide +kernel, rfl, by decide +kernel, by decide +kernel⟩
def spTold (CS CR : Addr) (x : Sy76.Call) : Sp := fun vs H Q E => ∃ (H0 : Hp) (p : Addr) (s : Sy76.St), vs = [.ref p] ∧ Same H0 H ∧ OwnS CS H0 H p s ∧ WF s ∧ Acts CR (fun H0 H' s' => OwnS CS H0 H' p s') H0 s x Q E
theorem ok_fewest_told {f fN fP : Addr} {fd fdN fdP : FuncData} (F : Fun K "fewest_told" "fewest_told" sFewestTold f fd) (B : Blt mg) (N6 : Num mg "NO_PLAN" (-6))
    (GN : Fn P w K mg base (L2.CX P w) 3 "need" fN fdN ["holds", "code"] (spNeed CR)) (GP : Fn P w K mg base CX0 9 "plans_of" fP fdP ["surface"] (spPlansOf CS)) : FnOk P w K mg base (L2.CX P w) 10 f fd ["surface"] (spTold CS CR .fewest) := by
  refine F.okX scFT (fun vs H Q E h => ?_) (fun cdv A outer s H vs Q E hr h => ?_)
  · obtain ⟨H0, p, s, rfl, _⟩ := h
    rfl
  · obtain ⟨H0, p, s, rfl, s0, ho, wf, kQ, kE⟩ := h
    refine ⟨_, pss_cons (ps_set (i := 1) scFT.nd rfl (Or.inl rfl) (pe_fn GP hr (pa_cons (pv 0) pa_nil)))
      (pss_cons (ps_expr (pe_fnX (E := E) GN (hr.mono (by decide)) (takes_of rfl rfl rfl rfl) (fun _ _ _ _ h => h) (pa_cons (pe_cmpR (op_neD hr.units) (pv 1) (pe_lst pa_nil) (nomark _)) (pa_cons (pe_num N6) pa_nil))))
      (pss_one (ps_ret (pe_lst (pa_cons (pe_len K B (pe_ixL K (pv 1) pe_int)) (pa_cons pe_int (pa_cons (pe_len K B (pv 1)) pa_nil))))))), ?_⟩
    refine ⟨_, rfl, p, s, rfl, ho.surf, wf, fun H1 a s1 _ hpl => ?_⟩
    refine ⟨_, rfl, Nat.zero_le _, plans_ne hpl fun H2 s2 => ?_⟩
    have own2 := (ho.same s1).same s2
    have s02 := (s0.trans s1).trans s2
    have fe := fewest_eq s
    have pe := plans_eq s
    refine ⟨!decide (plansOf s = []), -6, rfl, fun h1 => ?_, fun h1 H' d s3 _ hd => kE H' d (-6) (s02.trans s3) (own2.same s3) hd ?_⟩
    rotate_left
    · have e : plansOf s = [] := by simpa using h1
      rw [e] at fe
      show (s, _) = (s, _)
      rw [fe]
      rfl
    cases ep : plansOf s with
    | nil => rw [ep] at h1; simp at h1
    | cons p0 ps =>
      rw [ep] at fe pe hpl
      have st : step s .fewest = (s, ⟨(p0.length : Nat), [[((p0 :: ps).length : Int)]]⟩) := by
        show (s, _) = _
        rw [fe, pe]
        rfl
      obtain ⟨as, h3, h4, h5⟩ := (hpl.same s2).get
      obtain ⟨b, hb1, ts, hb2, hb3⟩ := h5 0 p0 rfl
      have g0 : atI (as.map V.ref) ((0 : Nat) : Int) = some (V.ref b) := atI_nat hb1
      refine ⟨_, rfl, a, _, _, _, rfl, rfl, SqL.of h3, g0, b, _, rfl, .inl (SqL.of hb2), _, rfl, a, _, rfl, .inl (SqL.of h3), line_of (by show 3 ≤ 16777216; decide), fun z hz => ?_⟩
      rw [st] at kQ
      have s3 := same_one (o := .lst [V.int ((ts.map V.ref).length : Nat), V.int 1, V.int ((as.map V.ref).length : Nat)]) hz
      refine kQ _ z (s02.trans s3) (own2.same s3) ?_
      show upd _ _ (.lst [V.int ((ts.map V.ref).length : Nat), V.int 1, V.int ((as.map V.ref).length : Nat)]) _ = _
      rw [upd_same, List.length_map, List.length_map, paired_len hb3, h4]
      rfl
/-! ### plan_told -/
def flat2 (p : Row) : List Nat := p.flatMap fun (x : Nat × Nat) => [x.1, x.2]
theorem flat2_len : ∀ p : Row, (flat2 p).length = 2 * p.length
  | [] => rfl
  | x :: p => by
    have := flat2_len p
    unfold flat2 at this ⊢
    rw [List.flatMap_cons, List.length_append, this]
    simp only [List.length_cons, List.length_nil]
    omega
theorem row_nv (p : Row) : (Sy76.row p).map V.int = nv (flat2 p) := by
  rw [nv_ints]
  rfl
theorem outV_one (v : Int) (l : List Int) : outV ⟨v, [l]⟩ = V.int v :: V.int (l.length : Nat) :: l.map V.int := by
  show List.map V.int (v :: ((l.length : Int) :: l ++ [])) = _
  rw [List.append_nil]
  rfl
theorem plan_few {s : Sy76.St} (wf : WF s) {p : Row} (h : p ∈ plansOf s) : p.length ≤ 5 := by
  rw [← plans_eq] at h
  have h1 := seen_nodup (mem_all.mp (mem_plans.mp h).1).1
  have h2 := nodup_len _ (List.range s.stencils.length) h1 fun k hk => range_all (mem_plans.mp h).1 k hk
  rw [List.length_map, List.length_range] at h2
  have := wf.many
  omega
abbrev nPT : List Str := ["surface", "number", "plans", "found", "stencil", "colour"]
theorem scPT : FnScope nPT ["surface", "number"] (defScope sPlanTold) := ⟨rfl, rfl, rfl, by decide +kernel, rfl, by decide +kernel, by decide +kernel⟩
def spPlanTold (CS CR : Addr) : Sp := fun vs H Q E => ∃ (H0 : Hp) (p : Addr) (s : Sy76.St) (k : Nat), vs = [.ref p, .int (k : Int)] ∧ Same H0 H ∧ OwnS CS H0 H p s ∧ WF s ∧ Acts CR (fun H0 H' s' => OwnS CS H0 H' p s') H0 s (.plan k) Q E
theorem ok_plan_told {f fN fP fW : Addr} {fd fdN fdP fdW : FuncData} (F : Fun K "plan_told" "plan_told" sPlanTold f fd) (B : Blt mg) (N2 : Num mg "NONE_SUCH" (-2))
    (GN : Fn P w K mg base (L2.CX P w) 3 "need" fN fdN ["holds", "code"] (spNeed CR)) (GP : Fn P w K mg base CX0 9 "plans_of" fP fdP ["surface"] (spPlansOf CS)) (GW : Fn P w K mg base CX0 1 "with_length" fW fdW ["numbers"] spWithLen) :
    FnOk P w K mg base (L2.CX P w) 10 f fd ["surface", "number"] (spPlanTold CS CR) := by
  refine F.okX scPT (fun vs H Q E h => ?_) (fun cdv A outer s H vs Q E hr h => ?_)
  · obtain ⟨H0, p, s, k, rfl, _⟩ := h
    rfl
  · obtain ⟨H0, p, s, k, rfl, s0, ho, wf, kQ, kE⟩ := h
    refine ⟨_, pss_cons (ps_set (i := 2) scPT.nd rfl (Or.inl rfl) (pe_fn GP hr (pa_cons (pv 0) pa_nil)))
      (pss_cons (ps_expr (pe_fnX (E := E) GN (hr.mono (by decide)) (takes_of rfl rfl rfl rfl) (fun _ _ _ _ h => h) (pa_cons (pe_cmpR op_lt (pv 1) (pe_len K B (pv 2)) (nomark _)) (pa_cons (pe_num N2) pa_nil))))
      (PSs.nox (pss_cons (ps_set (i := 3) scPT.nd rfl (Or.inl rfl) (pe_lst pa_nil))
      (pss_cons (ps_for PassesOwn.never rfl (pi_listK K (pe_ixL K (pv 2) (pv 1))) (pg_tup rfl (pgs_cons (pg_name (i := 4) scPT.nd rfl (Or.inl rfl)) (pgs_cons (pg_name (i := 5) scPT.nd rfl (Or.inl rfl)) pgs_nil)))
        (pss_one (ps_expr (pe_bm PySem.F.plainAttrs_list PySem.F.slot_list_extend PySem.F.type_list_extend mt_extend (pv 3) (pa_cons (pe_lst (pa_cons (pv 4) (pa_cons (pv 5) pa_nil))) pa_nil)))))
      (pss_one (ps_ret (pe_op op_cat (pe_lst (pa_cons (pe_len K B (pe_ixL K (pv 2) (pv 1))) pa_nil)) (pe_fn GW (hr.mono (by decide)) (pa_cons (pv 3) pa_nil))))))))), ?_⟩
    refine ⟨_, rfl, p, s, rfl, ho.surf, wf, fun H1 a s1 _ hpl => ?_⟩
    obtain ⟨as, h3, h4, h5⟩ := hpl.get
    refine ⟨_, rfl, _, rfl, a, _, rfl, .inl (SqL.of h3), _, _, rfl, rfl, ?_⟩
    have pe := plans_eq s
    have own1 := ho.same s1
    have s01 := s0.trans s1
    have e1 : decide ((k : Int) < (((as.map V.ref).length : Nat) : Int)) = decide (k < (plansOf s).length) := decide_eq_decide.mpr (by rw [List.length_map, h4]; omega)
    refine ⟨decide (k < (plansOf s).length), -2, (by show [V.bl (decide ((k : Int) < (((as.map V.ref).length : Nat) : Int))), V.int (-2)] = _; rw [e1]), fun h1 => ?_, fun h1 H' d s3 _ hd => kE H' d (-2) (s01.trans s3) (own1.same s3) hd ?_⟩
    rotate_left
    · have e : ¬ k < (plansOf s).length := of_decide_eq_false h1
      show (s, _) = (s, _)
      rw [pe, List.getElem?_eq_none (by omega)]
    have hk : k < (plansOf s).length := of_decide_eq_true h1
    have gk : (plansOf s)[k]? = some (plansOf s)[k] := List.getElem?_eq_getElem hk
    have few := plan_few wf (List.mem_of_getElem? gk)
    generalize (plansOf s)[k] = pl at gk few
    have st : step s (.plan k) = (s, ⟨(pl.length : Nat), [Sy76.row pl]⟩) := by
      show (s, _) = _
      rw [pe, gk]
    obtain ⟨b, hb1, ts, hb2, hb3⟩ := h5 k pl gk
    have gb : atI (as.map V.ref) (k : Int) = some (V.ref b) := atI_nat hb1
    refine ⟨Nat.zero_le _, fun fo hfo => ?_⟩
    have sF : Same H1 (upd H1 fo (.lst [])) := same_one hfo
    refine ⟨_, rfl, _, rfl, a, _, _, _, rfl, rfl, SqL.of (sF _ _ h3), gb, b, rfl, ⟨_, SqL.of (sF _ _ hb2)⟩, ?_⟩
    refine for_list (K := K) (a := b) (xs := ts.map V.ref) (fun i σ H' => ∃ v4 v5 : Option V, σ = [some (.ref p), some (.int (k : Int)), some (.ref a), some (.ref fo), v4, v5] ∧ Same H1 H' ∧ H' fo = some (.lst (nv (flat2 (pl.take i)))))
      ⟨none, none, rfl, sF, upd_same⟩ (fun i σ H' _ ⟨_, _, _, s2, _⟩ => SqL.of (s2 _ _ hb2)) ?_ ?_
    · rintro i x σ H' hx ⟨v4, v5, rfl, s2, hf⟩
      rw [List.getElem?_map] at hx
      cases ex : ts[i]? with
      | none => rw [ex] at hx; simp at hx
      | some x0 =>
        rw [ex] at hx
        obtain rfl : V.ref x0 = x := Option.some.inj hx
        obtain ⟨⟨k1, c1⟩, eo, hor⟩ := paired_get' hb3 ex
        have hi : i < pl.length := (List.getElem?_eq_some_iff.mp eo).1
        have hor' : H' x0 = some (.tup [.int (k1 : Int), .int (c1 : Int)]) := s2 _ _ hor
        refine ⟨x0, _, rfl, SqT.of hor', rfl, _, _, rfl, _, _, rfl, rfl, ?_⟩
        refine ⟨_, rfl, .inl ⟨rfl, _, SqL.of hf⟩, _, rfl, _, rfl, line_of (by show 2 ≤ 16777216; decide), fun l1 hl1 => ?_⟩
        have fl1 : fo ≠ l1 := ne_of_none hf hl1
        refine ⟨fo, l1, _, _, rfl, rfl, Eq.trans (upd_ne fl1) hf, upd_same, ?_, ?_⟩
        · rw [nv_len, flat2_len, List.length_take]
          exact line_of (by show 2 * min i pl.length + 2 ≤ 16777216; omega)
        · refine ⟨_, _, rfl, same_put (s2.trans (same_one hl1)) hfo, ?_⟩
          rw [upd_same, take_more eo]
          unfold flat2
          rw [List.flatMap_append, nv_app]
          rfl
    · rintro σ H' ⟨v4, v5, rfl, s2, hf⟩
      rw [List.length_map, paired_len hb3, List.take_length] at hf
      refine ⟨_, rfl, _, rfl, a, _, _, _, rfl, rfl, SqL.of (s2 _ _ h3), gb, b, _, rfl, .inl (SqL.of (s2 _ _ hb2)), line_of (by show 1 ≤ 16777216; decide), fun l1 hl1 => ?_⟩
      have t1 := same_one (o := .lst [V.int ((ts.map V.ref).length : Nat)]) hl1
      refine ⟨_, rfl, fo, _, rfl, t1 _ _ hf, ?_, fun H2 z s3 hz hz1 => ?_⟩
      · rw [nv_len, flat2_len]
        omega
      · refine ⟨l1, z, _, _, rfl, rfl, s3 _ _ upd_same, hz1, ?_, fun zz hzz => ?_⟩
        · show 1 + ((nv (flat2 pl)).length + 1) ≤ sizeLine
          rw [nv_len, flat2_len]
          exact line_of (by omega)
        · have s4 := ((s2.trans t1).trans s3).trans (same_one (o := .lst ([V.int ((ts.map V.ref).length : Nat)] ++ V.int ((nv (flat2 pl)).length : Nat) :: nv (flat2 pl))) hzz)
          rw [st] at kQ
          refine kQ _ zz (s01.trans s4) (own1.same s4) ?_
          show upd _ _ (.lst ([V.int ((ts.map V.ref).length : Nat)] ++ V.int ((nv (flat2 pl)).length : Nat) :: nv (flat2 pl))) _ = _
          have e9 : (Sy76.row pl).length = (nv (flat2 pl)).length := by rw [← row_nv, List.length_map]
          rw [upd_same, outV_one, row_nv, e9, List.length_map, paired_len hb3]
          rfl
/-! ### needed_told -/
abbrev nNT : List Str := ["surface", "needed"]
theorem scNT : FnScope nNT ["surface"] (defScope sNeededTold) := ⟨rfl, rfl, rfl, by decide +kernel, rfl, by decide +kernel, by decide +kernel⟩
theorem ok_needed_told {f fN fP fD fW : Addr} {fd fdN fdP fdD fdW : FuncData} (F : Fun K "needed_told" "needed_told" sNeededTold f fd) (B : Blt mg) (N6 : Num mg "NO_PLAN" (-6))
    (GN : Fn P w K mg base (L2.CX P w) 3 "need" fN fdN ["holds", "code"] (spNeed CR)) (GP : Fn P w K mg base CX0 9 "plans_of" fP fdP ["surface"] (spPlansOf CS)) (GD : Fn P w K mg base CX0 10 "needed_of" fD fdD ["surface"] (spNeededOf CS))
    (GW : Fn P w K mg base CX0 1 "with_length" fW fdW ["numbers"] spWithLen) : FnOk P w K mg base (L2.CX P w) 11 f fd ["surface"] (spTold CS CR .needed) := by
  refine F.okX scNT (fun vs H Q E h => ?_) (fun cdv A outer s H vs Q E hr h => ?_)
  · obtain ⟨H0, p, s, rfl, _⟩ := h
    rfl
  · obtain ⟨H0, p, s, rfl, s0, ho, wf, kQ, kE⟩ := h
    refine ⟨_, pss_cons (ps_expr (pe_fnX (E := E) GN (hr.mono (by decide)) (takes_of rfl rfl rfl rfl) (fun _ _ _ _ h => h) (pa_cons (pe_cmpR (op_neD hr.units) (pe_fn GP (hr.mono (by decide)) (pa_cons (pv 0) pa_nil)) (pe_lst pa_nil) (nomark _)) (pa_cons (pe_num N6) pa_nil))))
      (pss_cons (ps_set (i := 1) scNT.nd rfl (Or.inl rfl) (pe_fn GD hr (pa_cons (pv 0) pa_nil)))
      (pss_one (ps_ret (pe_op op_cat (pe_lst (pa_cons (pe_len K B (pv 1)) pa_nil)) (pe_fn GW (hr.mono (by decide)) (pa_cons (pv 1) pa_nil)))))), ?_⟩
    refine ⟨_, rfl, p, s, rfl, ho.surf, wf, fun H1 a s1 _ hpl => ?_⟩
    refine ⟨Nat.zero_le _, plans_ne hpl fun H2 s2 => ?_⟩
    have own2 := (ho.same s1).same s2
    have s02 := (s0.trans s1).trans s2
    have an := all_nil s
    refine ⟨!decide (plansOf s = []), -6, rfl, fun h1 => ?_, fun h1 H' d s3 _ hd => kE H' d (-6) (s02.trans s3) (own2.same s3) hd ?_⟩
    rotate_left
    · have e : plansOf s = [] := by simpa using h1
      show (s, if _ then _ else _) = (s, _)
      rw [if_pos (an.mpr e)]
    have e : ¬ plansOf s = [] := by simpa using h1
    have st : step s .needed = (s, ⟨((neededOf s).length : Nat), [Sy76.ints (neededOf s)]⟩) := by
      show (s, if _ then _ else _) = _
      rw [if_neg (fun z => e (an.mp z)), needed_eq]
    have few : (neededOf s).length ≤ 5 := by
      unfold neededOf
      have h2 := List.length_filter_le (isNeeded s) (List.range s.stencils.length)
      rw [List.length_range] at h2
      have := wf.many
      omega
    refine ⟨_, rfl, p, s, rfl, own2.surf, wf, fun H3 q s3 _ hq => ?_⟩
    refine ⟨_, rfl, q, _, rfl, .inl (SqL.of hq), line_of (by show 1 ≤ 16777216; decide), fun l1 hl1 => ?_⟩
    have t1 := same_one (o := .lst [V.int ((nv (neededOf s)).length : Nat)]) hl1
    refine ⟨_, rfl, q, _, rfl, t1 _ _ hq, by rw [nv_len]; omega, fun H4 z s4 hz hz1 => ?_⟩
    refine ⟨l1, z, _, _, rfl, rfl, s4 _ _ upd_same, hz1, ?_, fun zz hzz => ?_⟩
    · show 1 + ((nv (neededOf s)).length + 1) ≤ sizeLine
      rw [nv_len]
      exact line_of (by omega)
    · have s5 := ((s3.trans t1).trans s4).trans (same_one (o := .lst ([V.int ((nv (neededOf s)).length : Nat)] ++ V.int ((nv (neededOf s)).length : Nat) :: nv (neededOf s))) hzz)
      rw [st] at kQ
      refine kQ _ zz (s02.trans s5) (own2.same s5) ?_
      show upd _ _ (.lst ([V.int ((nv (neededOf s)).length : Nat)] ++ V.int ((nv (neededOf s)).length : Nat) :: nv (neededOf s))) _ = _
      have e9 : (Sy76.ints (neededOf s)).map V.int = nv (neededOf s) := (nv_ints _).symm
      have e8 : (Sy76.ints (neededOf s)).length = (neededOf s).length := List.length_map ..
      rw [upd_same, outV_one, e9, e8, nv_len]
      rfl
end
end SW

namespace SW
open PySem PySem.Spec PyProof.Rows L2
open Sy76 (step ok)
/-! ### couples -/
theorem couples_even : ∀ (m : Nat) (l : List Nat), l.length = 2 * m → ∃ p, Sy76.couples l = some p ∧ p.length = m ∧ ∀ i x, p[i]? = some x → l[2 * i]? = some x.1 ∧ l[2 * i + 1]? = some x.2
  | 0, l, h => by
    have e : l = [] := List.eq_nil_of_length_eq_zero (by omega)
    subst e
    exact ⟨[], rfl, rfl, by simp⟩
  | m + 1, [], h => by simp only [List.length_nil] at h; omega
  | m + 1, [a], h => by simp only [List.length_cons, List.length_nil] at h; omega
  | m + 1, a :: b :: l, h => by
    have hl : l.length = 2 * m := by simp only [List.length_cons] at h; omega
    obtain ⟨p, h1, h2, h3⟩ := couples_even m l hl
    refine ⟨(a, b) :: p, ?_, by rw [List.length_cons, h2], ?_⟩
    · show (Sy76.couples l).map _ = _
      rw [h1]
      rfl
    · intro i x hx
      cases i with
      | zero =>
        have e : (a, b) = x := Option.some.inj hx
        subst e
        exact ⟨rfl, rfl⟩
      | succ i =>
        have h4 := h3 i x hx
        exact h4
theorem couples_odd : ∀ (m : Nat) (l : List Nat), l.length = 2 * m + 1 → Sy76.couples l = none
  | 0, [a], _ => rfl
  | 0, [], h => by simp at h
  | 0, a :: b :: l, h => by simp at h
  | m + 1, [], h => by simp at h
  | m + 1, [a], h => by simp at h
  | m + 1, a :: b :: l, h => by
    have hl : l.length = 2 * m + 1 := by simp only [List.length_cons] at h; omega
    show (Sy76.couples l).map _ = _
    rw [couples_odd m l hl]
    rfl
theorem rg2 : ∀ m : Fin 31, Builtin.Range.small 0 ((2 * m.val : Nat) : Int) 2 = true ∧ Builtin.Range.rangeSize 0 ((2 * m.val : Nat) : Int) 2 = (m.val : Int) := by decide +kernel
section
variable {P : Program} {w : World} {K : PySem.W.Frag} {mg : Str → Option Value} {base : Heap} {CS CW CR : Addr}
abbrev nBT : List Str := ["surface", "numbers", "sprays", "stencil", "colour", "fits", "cells", "at"]
theorem scBT : FnScope nBT ["surface", "numbers"] (defScope sByTold) := ⟨rfl, rfl, rfl, by decide +kernel, rfl, by decide +kernel, by decide +kernel⟩
theorem pairs_put {H : Hp} {D : Addr} {x y : List V} (hD : H D = some (.lst x)) {ts : List Addr} {p : Row} (h : Paired (PairAt H) ts p) : Paired (PairAt (upd H D (.lst y))) ts p :=
  paired_imp (fun t q ht => by
    have nt : t ≠ D := fun z => by
      have ht' : H t = _ := ht
      rw [z, hD] at ht'
      cases ht'
    show upd _ _ _ _ = _
    rw [upd_ne nt]
    exact ht) h
def spByTold (K : PySem.W.Frag) (CS CR : Addr) : Sp := fun vs H Q E => ∃ (H0 : Hp) (p r : Addr) (s : Sy76.St) (l : List Nat), vs = [.ref p, .ref r] ∧ Same H0 H ∧ OwnS CS H0 H p s ∧ WF s ∧ SqL K H r (nv l) ∧ l.length ≤ 60 ∧ Acts CR (fun H0 H' s' => OwnS CS H0 H' p s') H0 s (.by_ l) Q E
theorem ok_by_told {f fN fC fS fO fW : Addr} {fd fdN fdC fdS fdO fdW : FuncData} (F : Fun K "by_told" "by_told" sByTold f fd) (B : Blt mg) (N1 : Num mg "OUT_OF_RANGE" (-1)) (S : SurfC K CS)
    (GN : Fn P w K mg base (L2.CX P w) 3 "need" fN fdN ["holds", "code"] (spNeed CR)) (GC : Fn P w K mg base CX0 1 "is_colour" fC fdC ["number"] spIsColour) (GS : Fn P w K mg base CX0 1 "sprayed" fS fdS ["cells", "stencil", "colour"] (spSprayed K))
    (GO : Fn P w K mg base CX0 1 "otherwise" fO fdO ["cells", "wanted"] (spOtherwise K)) (GW : Fn P w K mg base CX0 1 "with_length" fW fdW ["numbers"] spWithLen) : FnOk P w K mg base (L2.CX P w) 4 f fd ["surface", "numbers"] (spByTold K CS CR) := by
  refine F.okX scBT (fun vs H Q E h => ?_) (fun cdv A outer s H vs Q E hr h => ?_)
  · obtain ⟨H0, p, r, s, l, rfl, _⟩ := h
    rfl
  · obtain ⟨H0, p, r, s, l, rfl, s0, ho, wf, hr0, hl, kQ, kE⟩ := h
    have hr1 : Room 1 _ := hr.mono (by decide)
    refine ⟨_, pss_cons (ps_expr (pe_fnX (E := E) GN hr (takes_of rfl rfl rfl rfl) (fun _ _ _ _ h => h) (pa_cons (pe_cmpR op_eq (pe_op op_mod (pe_len K B (pv 1)) pe_int) pe_int (nomark _)) (pa_cons (pe_num N1) pa_nil))))
      (pss_cons (ps_setLc (i := 2) (own := [("at", 7)]) (g := gName 7) (by rfl) scBT.nd rfl rfl (sw_true rfl rfl rfl (by decide +kernel))
        (pi_range3 (by rfl) B.range (pa_cons pe_int (pa_cons (pe_len K B (pv 1)) (pa_cons pe_int pa_nil))))
        (blkOk_by (own := [("at", 7)]) (N := nBT) (sc := defScope sByTold) (by decide +kernel))
        (fun _ _ _ _ _ => pg_name (i := 7) scBT.nd rfl (Or.inl rfl))
        (fun _ _ _ _ _ => pts_nil)
        (fun _ _ _ _ _ => pe_tup (pa_cons (pe_ixL K (pv 1) (pv 7)) (pa_cons (pe_ixL K (pv 1) (pe_op op_add (pv 7) pe_int)) pa_nil))))
      (pss_cons (ps_set (i := 5) scBT.nd rfl (Or.inl rfl) (pe_all K B rfl (pe_lc (own := [("stencil", 3), ("colour", 4)]) (g := gTup K 2 (gCons (gName 3) (gCons (gName 4) gNil))) (by rfl) scBT.nd
        (pi_listK K (pv 2))
        (blkOk_by (own := [("stencil", 3), ("colour", 4)]) (N := nBT) (sc := defScope sByTold) (by decide +kernel))
        (fun _ _ _ _ _ => pg_tupK K rfl (pgs_cons (pg_name (i := 3) scBT.nd rfl (Or.inl rfl)) (pgs_cons (pg_name (i := 4) scBT.nd rfl (Or.inl rfl)) pgs_nil)))
        (fun _ _ _ _ _ => pts_nil)
        (fun _ _ _ _ _ => pe_and (pe_cmpR op_lt (pv 3) (pe_len K B (pe_fldK K (pv 0))) (nomark _)) (pe_one (pe_fn GC hr1 (pa_cons (pv 4) pa_nil)))))))
      (pss_cons (ps_expr (pe_fnX (E := E) GN hr (takes_of rfl rfl rfl rfl) (fun _ _ _ _ h => h) (pa_cons (pv 5) (pa_cons (pe_num N1) pa_nil))))
      (PSs.nox (pss_cons (ps_set (i := 6) scBT.nd rfl (Or.inl rfl) (pe_callTy call_list_of (by rfl) B.list (by decide +kernel) (pa_cons (pe_fldK K (pv 0)) pa_nil)))
      (pss_cons (ps_for PassesOwn.never rfl (pi_listK K (pv 2)) (pg_tup rfl (pgs_cons (pg_name (i := 3) scBT.nd rfl (Or.inl rfl)) (pgs_cons (pg_name (i := 4) scBT.nd rfl (Or.inl rfl)) pgs_nil)))
        (pss_one (ps_set (i := 6) scBT.nd rfl (Or.inl rfl) (pe_fn GS hr1 (pa_cons (pv 6) (pa_cons (pe_ixL K (pe_fldK K (pv 0)) (pv 3)) (pa_cons (pv 4) pa_nil)))))))
      (pss_one (ps_ret (pe_op op_cat (pe_lst (pa_cons (pe_len K B (pe_fn GO hr1 (pa_cons (pv 6) (pa_cons (pe_fldK K (pv 0)) pa_nil)))) pa_nil)) (pe_fn GW hr1 (pa_cons (pv 6) pa_nil))))))))))), ?_⟩
    obtain ⟨dx, ca, wa, ta, ts, hs, np, nc, nw, nt, nts⟩ := id ho
    have w25 := wf.wall25
    refine ⟨_, rfl, r, _, rfl, .inl hr0, _, _, rfl, rfl, (by show (0 : Int) < 2; decide), rfl, ?_⟩
    have e1 : decide (V.int (((nv l).length : Nat) % 2 : Int) = V.int 0) = decide (l.length % 2 = 0) := by
      rw [nv_len]
      refine decide_eq_decide.mpr ⟨fun h => by injection h with h; omega, fun h => ?_⟩
      have : ((l.length : Nat) : Int) % 2 = 0 := by omega
      rw [this]
    refine ⟨decide (l.length % 2 = 0), -1, (by show [V.bl (decide (V.int (((nv l).length : Nat) % 2 : Int) = V.int 0)), V.int (-1)] = _; rw [e1]), fun h1 => ?_, fun h1 H' d s1 _ hd => kE H' d (-1) (s0.trans s1) (ho.same s1) hd ?_⟩
    rotate_left
    · have h1' : ¬ l.length % 2 = 0 := of_decide_eq_false h1
      have e : l.length = 2 * (l.length / 2) + 1 := by omega
      show (s, _) = (s, _)
      rw [couples_odd _ l e]
    have h1' : l.length % 2 = 0 := of_decide_eq_true h1
    obtain ⟨pr, cp1, cp2, cp3⟩ := couples_even (l.length / 2) l (by omega)
    have cp4 : l.length = 2 * pr.length := by omega
    have e30 : pr.length < 31 := by omega
    obtain ⟨g1, g2⟩ := rg2 ⟨pr.length, e30⟩
    -- sprays = [..]
    refine ⟨_, rfl, r, _, rfl, .inl hr0, 0, _, 2, pr.length, rfl, ⟨by decide, by decide, ?_, ?_⟩, fun D hD => ?_⟩
    · rw [nv_len, cp4]; exact g1
    · rw [nv_len, cp4]; exact g2
    refine lc_rangeC (fun i H' => Same H H' ∧ ∃ ps : List Addr, H' D = some (.lst (ps.map V.ref)) ∧ Paired (PairAt H') ps (pr.take i)) ⟨same_one hD, [], upd_same, .nil⟩ (fun i H1 hi p1 => ?_) fun H1 p1 => ?_
    · obtain ⟨s1, ps, hp1, hp2⟩ := p1
      have gi : pr[i]? = some pr[i] := List.getElem?_eq_getElem hi
      generalize pr[i] = x at gi
      obtain ⟨c1, c2⟩ := cp3 i x gi
      obtain ⟨k1, c0⟩ := x
      have d1 : (nv l)[2 * i]? = some (V.int (k1 : Int)) := by unfold nv; rw [List.getElem?_map, c1]; rfl
      have d2 : (nv l)[2 * i + 1]? = some (V.int (c0 : Int)) := by unfold nv; rw [List.getElem?_map, c2]; rfl
      refine ⟨rfl, yes_go ?_⟩
      refine ⟨_, rfl, _, rfl, r, _, _, _, rfl, rfl, s1.seq hr0, at_of (by omega) d1, _, rfl, _, rfl, _, _, rfl, rfl, r, _, _, _, rfl, rfl, s1.seq hr0, at_of (by omega) d2, line_of (by show 2 ≤ 16777216; decide), fun t ht => ?_⟩
      have t1 : Same H1 (upd H1 t (.tup [.int (k1 : Int), .int (c0 : Int)])) := same_one ht
      refine ⟨_, t1 _ _ hp1, ?_, same_put (s1.trans t1) hD, ps ++ [t], ?_, ?_⟩
      · rw [List.length_map, paired_len hp2, List.length_take]
        exact line_lt (by omega)
      · rw [upd_same, List.map_append]
        rfl
      · rw [take_more gi]
        have u : PairAt (upd H1 t (.tup [.int (k1 : Int), .int (c0 : Int)])) t (k1, c0) := upd_same
        exact pairs_put (t1 _ _ hp1) (paired_snoc (paired_imp (fun _ _ q => PairAt.same t1 q) hp2) u)
    obtain ⟨s1, ps, hp1, hp2⟩ := p1
    rw [List.take_length] at hp2
    have hs1 := hs.same s1
    -- fits = all([..])
    refine ⟨_, rfl, D, rfl, ⟨_, SqL.of hp1⟩, fun D2 hD2 => ?_⟩
    refine lc_list_of (xs := ps.map V.ref) (fun i => (pr[i]?).bind fun x => some (.bl (decide (x.1 < s.stencils.length) && isCol x.2))) hD2 (SqL.of hp1) (by rw [List.length_map, paired_len hp2]; omega) (fun i x H2 hx s2 Yes No hy hno => ?_) fun H2 s2 hD3 => ?_
    · rw [List.getElem?_map] at hx
      cases ex : ps[i]? with
      | none => rw [ex] at hx; simp at hx
      | some x0 =>
        rw [ex] at hx
        obtain rfl : V.ref x0 = x := Option.some.inj hx
        obtain ⟨⟨k1, c0⟩, eo, hor⟩ := paired_get' hp2 ex
        have hor' : H2 x0 = some (.tup [.int (k1 : Int), .int (c0 : Int)]) := s2 _ _ hor
        have hs2 := hs1.same s2
        refine ⟨x0, _, rfl, SqT.of hor', rfl, _, _, rfl, _, _, rfl, rfl, rfl, yes_go ?_⟩
        refine ⟨_, rfl, _, rfl, p, CS, dx, _, _, rfl, hs2.obj, S.cl, S.nSt, sf_sten .., ta, _, rfl, .inl (SqL.of hs2.sten), _, _, rfl, rfl, _, rfl, ?_⟩
        rw [hs2.len]
        by_cases ck : k1 < s.stencils.length
        · have e2 : decide ((k1 : Int) < (s.stencils.length : Nat)) = true := decide_eq_true (by omega)
          rw [e2]
          refine iteT ?_
          refine ⟨_, rfl, c0, rfl, hy _ _ (Same.refl _) ?_⟩
          rw [eo]
          show some (V.bl (decide (k1 < s.stencils.length) && isCol c0)) = _
          rw [decide_eq_true ck, Bool.true_and]
        · have e2 : decide ((k1 : Int) < (s.stencils.length : Nat)) = false := decide_eq_false (by omega)
          rw [e2]
          refine iteF ?_
          refine hy _ _ (Same.refl _) ?_
          rw [eo]
          show some (V.bl (decide (k1 < s.stencils.length) && isCol c0)) = _
          rw [decide_eq_false ck, Bool.false_and]
    have e5 : H2 D2 = some (.lst ((pr.map fun x => decide (x.1 < s.stencils.length) && isCol x.2).map V.bl)) := by
      rw [hD3, List.length_map, paired_len hp2, picks_all pr (fun x => V.bl (decide (x.1 < s.stencils.length) && isCol x.2)) _ (fun i x hx => by rw [hx]; rfl), List.map_map]
      rfl
    refine ⟨D2, _, rfl, SqL.of e5, ?_⟩
    have s02 := (s0.trans s1).trans s2
    have own2 := (ho.same s1).same s2
    have hs2 := hs1.same s2
    have e6 : ((pr.map fun x => decide (x.1 < s.stencils.length) && isCol x.2).all id) = !(pr.any (fun (x : Nat × Nat) => decide (s.stencils.length ≤ x.1) || (decide (x.2 < 1) || decide (5 < x.2)))) := by
      rw [List.all_map, Bool.eq_iff_iff, Bool.not_eq_true', List.all_eq_true, List.any_eq_false]
      refine forall_congr' fun x => ?_
      refine imp_congr_right fun _ => ?_
      simp only [Function.comp, id, isCol, Bool.and_eq_true, decide_eq_true_eq, Bool.or_eq_true]
      omega
    refine ⟨_, rfl, _, -1, rfl, fun h2 => ?_, fun h2 H' d s3 _ hd => kE H' d (-1) (s02.trans s3) (own2.same s3) hd ?_⟩
    rotate_left
    · rw [e6] at h2
      have h2' : (pr.any (fun (x : Nat × Nat) => decide (s.stencils.length ≤ x.1) || (decide (x.2 < 1) || decide (5 < x.2)))) = true := by simpa using h2
      show (s, _) = (s, _)
      rw [cp1]
      show (s, if _ then _ else _) = _
      rw [if_pos h2']
    have st : step s (.by_ l) = (s, ⟨((Sy76.wrong s (Sy76.ran s pr)).length : Nat), [Sy76.ints (Sy76.ran s pr)]⟩) := by
      rw [e6] at h2
      have h2' : (pr.any (fun (x : Nat × Nat) => decide (s.stencils.length ≤ x.1) || (decide (x.2 < 1) || decide (5 < x.2)))) = false := by simpa using h2
      show (s, _) = (s, _)
      rw [cp1]
      show (s, if _ then _ else _) = _
      rw [if_neg (by rw [h2']; exact Bool.false_ne_true)]
    have ink : ∀ x ∈ pr, x.1 < s.stencils.length := fun x hx => by
      rw [List.all_map, List.all_eq_true] at h2
      have h3 := h2 x hx
      have h4 : (decide (x.1 < s.stencils.length) && isCol x.2) = true := h3
      rw [Bool.and_eq_true] at h4
      exact of_decide_eq_true h4.1
    -- cells = list(surface.cells)
    refine ⟨_, rfl, p, CS, dx, _, _, rfl, hs2.obj, S.cl, S.nCe, sf_cells .., ca, _, rfl, .inl (SqL.of hs2.cells), fun c1 hc1 => ?_⟩
    have t2 : Same H2 (upd H2 c1 (.lst (nv s.wall))) := same_one hc1
    refine ⟨_, rfl, D, rfl, ⟨_, SqL.of (t2 _ _ (s2 _ _ hp1))⟩, ?_⟩
    refine for_list (K := K) (a := D) (xs := ps.map V.ref) (fun i σ H' => ∃ (v3 v4 : Option V) (b : Bool) (cz : Addr), σ = [some (.ref p), some (.ref r), some (.ref D), v3, v4, some (.bl b), some (.ref cz), none] ∧ Same H2 H' ∧ H' cz = some (.lst (nv ((pr.take i).foldl (Sy76.sprayed s) s.wall))))
      ⟨none, none, _, c1, rfl, t2, upd_same⟩ (fun i σ H' _ ⟨_, _, _, _, _, s3, _⟩ => SqL.of (s3 _ _ (s2 _ _ hp1))) ?_ ?_
    · rintro i x σ H' hx ⟨v3, v4, b, cz, rfl, s3, hf⟩
      rw [List.getElem?_map] at hx
      cases ex : ps[i]? with
      | none => rw [ex] at hx; simp at hx
      | some x0 =>
        rw [ex] at hx
        obtain rfl : V.ref x0 = x := Option.some.inj hx
        obtain ⟨⟨k1, c0⟩, eo, hor⟩ := paired_get' hp2 ex
        have hor' : H' x0 = some (.tup [.int (k1 : Int), .int (c0 : Int)]) := s3 _ _ (s2 _ _ hor)
        have hk : k1 < s.stencils.length := ink _ (List.mem_of_getElem? eo)
        have hs3 := hs2.same s3
        obtain ⟨a, ga, ha⟩ := hs3.open_ hk
        refine ⟨x0, _, rfl, SqT.of hor', rfl, _, _, rfl, _, _, rfl, rfl, ?_⟩
        refine ⟨_, rfl, _, rfl, p, CS, dx, _, _, rfl, hs3.obj, S.cl, S.nSt, sf_sten .., _, rfl, ta, _, _, _, rfl, rfl, SqL.of hs3.sten, atI_nat ga, _, rfl, ?_⟩
        refine ⟨cz, a, _, Sy76.open_ s k1, c0, rfl, SqL.of hf, SqL.of ha, by rw [ran_len]; omega, fun H3 z s4 hz hz1 => ?_⟩
        refine ⟨_, _, _, z, rfl, s3.trans s4, ?_⟩
        rw [hz1, take_more eo, List.foldl_append, List.foldl_cons, List.foldl_nil, spr_eq]
    · rintro σ H' ⟨v3, v4, b, cz, rfl, s3, hf⟩
      rw [List.length_map, paired_len hp2, List.take_length] at hf
      have hf' : H' cz = some (.lst (nv (Sy76.ran s pr))) := hf
      have rl : (Sy76.ran s pr).length = s.wall.length := ran_len s pr s.wall
      have hs3 := hs2.same s3
      refine ⟨_, rfl, _, rfl, p, CS, dx, _, _, rfl, hs3.obj, S.cl, S.nW, sf_wanted .., cz, wa, Sy76.ran s pr, s.picture, rfl, SqL.of hf', SqL.of hs3.wanted, by rw [rl, wf.pic, wf.wall]; exact Nat.le_refl _, by omega, fun H3 z s4 _ hz1 => ?_⟩
      have dl : (diff (Sy76.ran s pr) s.picture).length ≤ 25 := by
        have h9 := List.length_filter_le (fun i => (Sy76.ran s pr).getD i 0 != s.picture.getD i 0) (List.range (Sy76.ran s pr).length)
        rw [List.length_range] at h9
        unfold diff
        omega
      refine ⟨z, _, rfl, .inl (SqL.of hz1), line_of (by show 1 ≤ 16777216; decide), fun l1 hl1 => ?_⟩
      have t3 := same_one (o := .lst [V.int ((nv (diff (Sy76.ran s pr) s.picture)).length : Nat)]) hl1
      refine ⟨_, rfl, cz, _, rfl, t3 _ _ (s4 _ _ hf'), by rw [nv_len]; omega, fun H4 z2 s5 hz2 hz21 => ?_⟩
      refine ⟨l1, z2, _, _, rfl, rfl, s5 _ _ upd_same, hz21, ?_, fun zz hzz => ?_⟩
      · show 1 + ((nv (Sy76.ran s pr)).length + 1) ≤ sizeLine
        rw [nv_len]
        exact line_of (by omega)
      · have s6 := (((s3.trans s4).trans t3).trans s5).trans (same_one (o := .lst ([V.int ((nv (diff (Sy76.ran s pr) s.picture)).length : Nat)] ++ V.int ((nv (Sy76.ran s pr)).length : Nat) :: nv (Sy76.ran s pr))) hzz)
        rw [st] at kQ
        refine kQ _ zz (s02.trans s6) (own2.same s6) ?_
        show upd _ _ (.lst ([V.int ((nv (diff (Sy76.ran s pr) s.picture)).length : Nat)] ++ V.int ((nv (Sy76.ran s pr)).length : Nat) :: nv (Sy76.ran s pr))) _ = _
        have e9 : (Sy76.ints (Sy76.ran s pr)).map V.int = nv (Sy76.ran s pr) := (nv_ints _).symm
        have e8 : (Sy76.ints (Sy76.ran s pr)).length = (Sy76.ran s pr).length := List.length_map ..
        rw [upd_same, outV_one, e9, e8, nv_len, nv_len]
        rfl
end
end SW

namespace SW
open PySem PySem.Spec PyProof.Rows L2
open Sy76 (step ok)
section
variable {P : Program} {w : World} {K : PySem.W.Frag} {mg : Str → Option Value} {base : Heap} {CS CW CR : Addr}
/-! ### state_told -/
abbrev nSo : List Str := ["surface", "found", "stencil", "sides"]
theorem scSo : FnScope nSo ["surface"] (defScope sStateTold) := ⟨rfl, rfl, rfl, by decide +kernel, rfl, by decide +kernel, by decide +kernel⟩
def flatS (l : List (List Nat)) : List Nat := l.flatMap fun (l : List Nat) => l.length :: l
theorem flatS_len (l : List (List Nat)) (h : ∀ m ∈ l, m.length ≤ 60) : (flatS l).length ≤ l.length * 61 :=
  flat_len _ 61 l fun m hm => by rw [List.length_cons]; have := h m hm; omega
theorem outV_three (v : Int) (l m n : List Int) : outV ⟨v, [l, m, n]⟩ = V.int v :: V.int (l.length : Nat) :: l.map V.int ++ (V.int (m.length : Nat) :: m.map V.int) ++ (V.int (n.length : Nat) :: n.map V.int) := by
  show List.map V.int (v :: ((l.length : Int) :: l ++ ((m.length : Int) :: m ++ ((n.length : Int) :: n ++ [])))) = _
  rw [List.append_nil]
  simp
theorem ok_state_told {f fW : Addr} {fd fdW : FuncData} (F : Fun K "state_told" "state_told" sStateTold f fd) (B : Blt mg) (S : SurfC K CS) (GW : Fn P w K mg base CX0 1 "with_length" fW fdW ["numbers"] spWithLen) :
    FnOk P w K mg base CX0 2 f fd ["surface"] (spTold CS CR .state) := by
  refine F.ok scSo (fun vs H Q E h => ?_) (fun cdv A outer s H vs Q E hr h => ?_)
  · obtain ⟨H0, p, s, rfl, _⟩ := h
    rfl
  · obtain ⟨H0, p, s, rfl, s0, ho, wf, kQ, _⟩ := h
    refine ⟨_, pss_cons (ps_set (i := 1) scSo.nd rfl (Or.inl rfl) (pe_lst pa_nil))
      (pss_cons (ps_for PassesOwn.never rfl (pi_listK K (pe_fldK K (pv 0))) (pg_name (i := 2) scSo.nd rfl (Or.inl rfl))
        (pss_one (ps_expr (pe_bm PySem.F.plainAttrs_list PySem.F.slot_list_extend PySem.F.type_list_extend mt_extend (pv 1) (pa_cons (pe_fn GW hr (pa_cons (pv 2) pa_nil)) pa_nil)))))
      (pss_cons (ps_set (i := 3) scSo.nd rfl (Or.inl rfl) (pe_fn GW hr (pa_cons (pe_lst (pa_cons (pe_fldK K (pv 0)) (pa_cons (pe_fldK K (pv 0)) pa_nil))) pa_nil)))
      (pss_one (ps_ret (pe_op op_cat (pe_op op_cat (pe_op op_cat (pe_lst (pa_cons (pe_len K B (pe_fldK K (pv 0))) pa_nil)) (pv 3)) (pe_fn GW hr (pa_cons (pe_callTy call_list_of (by rfl) B.list (by decide +kernel) (pa_cons (pe_fldK K (pv 0)) pa_nil)) pa_nil))) (pe_fn GW hr (pa_cons (pv 1) pa_nil))))))), ?_⟩
    obtain ⟨dx, ca, wa, ta, ts, hs, np, nc, nw, nt, nts⟩ := id ho
    have st : step s .state = (s, ⟨(s.stencils.length : Nat), [Sy76.ints [s.rows, s.cols], Sy76.ints s.picture, Sy76.ints (flatS s.stencils)]⟩) := rfl
    rw [st] at kQ
    have p25 := wf.pic25
    have fl := flatS_len s.stencils wf.few
    have fl5 : s.stencils.length * 61 ≤ 5 * 61 := Nat.mul_le_mul_right _ wf.many
    refine ⟨Nat.zero_le _, fun fo hfo => ?_⟩
    have sF : Same H (upd H fo (.lst [])) := same_one hfo
    have hsF := hs.same sF
    refine ⟨_, rfl, p, CS, dx, _, _, rfl, hsF.obj, S.cl, S.nSt, sf_sten .., ta, rfl, ⟨_, SqL.of hsF.sten⟩, ?_⟩
    refine for_list (K := K) (a := ta) (xs := ts.map V.ref) (fun i σ H' => ∃ v2 : Option V, σ = [some (.ref p), some (.ref fo), v2, none] ∧ Same H H' ∧ H' fo = some (.lst (nv (flatS (s.stencils.take i)))))
      ⟨none, rfl, sF, upd_same⟩ (fun i σ H' _ ⟨_, _, s2, _⟩ => SqL.of (s2 _ _ hs.sten)) ?_ ?_
    · rintro i x σ H' hx ⟨v2, rfl, s2, hf⟩
      rw [List.getElem?_map] at hx
      cases ex : ts[i]? with
      | none => rw [ex] at hx; simp at hx
      | some x0 =>
        rw [ex] at hx
        obtain rfl : V.ref x0 = x := Option.some.inj hx
        obtain ⟨m, eo, hor⟩ := paired_get' hs.each ex
        have hi : i < s.stencils.length := (List.getElem?_eq_some_iff.mp eo).1
        have hor' : H' x0 = some (.lst (nv m)) := s2 _ _ hor
        have ml := wf.few m (List.mem_of_getElem? eo)
        refine ⟨_, rfl, .inl ⟨rfl, _, SqL.of hf⟩, _, rfl, x0, _, rfl, hor', by rw [nv_len]; omega, fun H1 z s3 hz hz1 => ?_⟩
        have tl := flatS_len (s.stencils.take i) fun m hm => wf.few m (List.mem_of_mem_take hm)
        have tl5 : (s.stencils.take i).length * 61 ≤ 5 * 61 := Nat.mul_le_mul_right _ (by rw [List.length_take]; have := wf.many; omega)
        refine ⟨fo, z, _, _, rfl, rfl, s3 _ _ hf, hz1, ?_, ?_⟩
        · show (nv (flatS (s.stencils.take i))).length + ((nv m).length + 1) ≤ sizeLine
          rw [nv_len, nv_len]
          exact line_of (by omega)
        · refine ⟨_, rfl, same_put (s2.trans s3) hfo, ?_⟩
          rw [upd_same, take_more eo]
          unfold flatS
          rw [List.flatMap_append, nv_app, nv_len, List.flatMap_cons, List.flatMap_nil, List.append_nil]
          rfl
    · rintro σ H' ⟨v2, rfl, s2, hf⟩
      rw [List.length_map, paired_len hs.each, List.take_length] at hf
      have hs2 := hs.same s2
      refine ⟨_, rfl, p, CS, dx, _, _, rfl, hs2.obj, S.cl, S.nR, sf_rows .., _, rfl, p, CS, dx, _, _, rfl, hs2.obj, S.cl, S.nC, sf_cols .., line_of (by show 2 ≤ 16777216; decide), fun l1 hl1 => ?_⟩
      have t1 := same_one (o := .lst [V.int (s.rows : Int), V.int (s.cols : Int)]) hl1
      refine ⟨l1, _, rfl, upd_same, (by show 2 ≤ 10000000; decide), fun H2 d1 s3 hd1 hd11 => ?_⟩
      have s23 := (s2.trans t1).trans s3
      have hs3 := hs.same s23
      refine ⟨_, rfl, p, CS, dx, _, _, rfl, hs3.obj, S.cl, S.nSt, sf_sten .., ta, _, rfl, .inl (SqL.of hs3.sten), line_of (by show 1 ≤ 16777216; decide), fun l2 hl2 => ?_⟩
      have t2 := same_one (o := .lst [V.int ((ts.map V.ref).length : Nat)]) hl2
      refine ⟨_, rfl, l2, d1, _, _, rfl, rfl, upd_same, t2 _ _ hd11, line_of (by show 1 + 3 ≤ 16777216; decide), fun l3 hl3 => ?_⟩
      have t3 := same_one (o := .lst ([V.int ((ts.map V.ref).length : Nat)] ++ [V.int 2, V.int (s.rows : Int), V.int (s.cols : Int)])) hl3
      have hs4 := hs3.same (t2.trans t3)
      refine ⟨_, rfl, p, CS, dx, _, _, rfl, hs4.obj, S.cl, S.nW, sf_wanted .., wa, _, rfl, .inl (SqL.of hs4.wanted), fun l4 hl4 => ?_⟩
      have t4 := same_one (o := .lst (nv s.picture)) hl4
      refine ⟨l4, _, rfl, upd_same, by rw [nv_len]; omega, fun H3 d2 s4 hd2 hd21 => ?_⟩
      have h3' := s4 _ _ (t4 _ _ (show (upd _ l3 _) l3 = _ from upd_same))
      refine ⟨l3, d2, _, _, rfl, rfl, h3', hd21, ?_, fun l5 hl5 => ?_⟩
      · show 4 + ((nv s.picture).length + 1) ≤ sizeLine
        rw [nv_len]
        exact line_of (by omega)
      have t5 := same_one (o := .lst (([V.int ((ts.map V.ref).length : Nat)] ++ [V.int 2, V.int (s.rows : Int), V.int (s.cols : Int)]) ++ (V.int ((nv s.picture).length : Nat) :: nv s.picture))) hl5
      have hf5 := t5 _ _ (s4 _ _ (t4 _ _ (t3 _ _ (t2 _ _ (s3 _ _ (t1 _ _ hf))))))
      refine ⟨_, rfl, fo, _, rfl, hf5, by rw [nv_len]; omega, fun H4 d3 s5 hd3 hd31 => ?_⟩
      have h5' := s5 _ _ (show (upd _ l5 _) l5 = _ from upd_same)
      refine ⟨l5, d3, _, _, rfl, rfl, h5', hd31, ?_, fun zz hzz => ?_⟩
      · rw [List.length_append]
        show (4 + ((nv s.picture).length + 1)) + ((nv (flatS s.stencils)).length + 1) ≤ sizeLine
        rw [nv_len, nv_len]
        exact line_of (by omega)
      have sAll := ((((((s23.trans t2).trans t3).trans t4).trans s4).trans t5).trans s5)
      have t6 := same_one (o := .lst ((([V.int ((ts.map V.ref).length : Nat)] ++ [V.int 2, V.int (s.rows : Int), V.int (s.cols : Int)]) ++ (V.int ((nv s.picture).length : Nat) :: nv s.picture)) ++ (V.int ((nv (flatS s.stencils)).length : Nat) :: nv (flatS s.stencils)))) hzz
      refine kQ _ zz ((s0.trans sAll).trans t6) ((ho.same sAll).same t6) ?_
      show upd _ _ (.lst ((([V.int ((ts.map V.ref).length : Nat)] ++ [V.int 2, V.int (s.rows : Int), V.int (s.cols : Int)]) ++ (V.int ((nv s.picture).length : Nat) :: nv s.picture)) ++ (V.int ((nv (flatS s.stencils)).length : Nat) :: nv (flatS s.stencils)))) _ = _
      have e1 : (Sy76.ints s.picture).map V.int = nv s.picture := (nv_ints _).symm
      have e2 : (Sy76.ints (flatS s.stencils)).map V.int = nv (flatS s.stencils) := (nv_ints _).symm
      have e3 : (Sy76.ints s.picture).length = (nv s.picture).length := by rw [nv_len]; exact List.length_map ..
      have e4 : (Sy76.ints (flatS s.stencils)).length = (nv (flatS s.stencils)).length := by rw [nv_len]; exact List.length_map ..
      rw [upd_same, outV_three, e1, e2, e3, e4, hs.len]
      rfl
end
end SW

namespace SW
open PySem PySem.Spec PyProof.Rows L2
open Sy76 (step ok)
/-- the numbers of the calls -/
structure Nums (mg : Str → Option Value) : Prop where
  n0 : Num mg "BEGINS" 0
  n1 : Num mg "STENCIL" 1
  n2 : Num mg "PICTURE" 2
  n3 : Num mg "SPRAY" 3
  n4 : Num mg "WASH" 4
  n5 : Num mg "WRONG" 5
  n6 : Num mg "FEWEST" 6
  n7 : Num mg "PLAN" 7
  n8 : Num mg "NEEDED" 8
  n9 : Num mg "BY" 9
  n10 : Num mg "WALL" 10
theorem yes_ {c : Bool} {A B : Prop} (h : c = true) (a : A) : if c = true then A else B := by
  rw [if_pos h]
  exact a
theorem no_ {c : Bool} {A B : Prop} (h : c = false) (b : B) : if c = true then A else B := by
  rw [h, if_neg Bool.false_ne_true]
  exact b
section
variable {P : Program} {w : World} {K : PySem.W.Frag} {mg : Str → Option Value} {base : Heap} {CS CW CR : Addr}
/-! ### asked -/
abbrev nAk : List Str := ["surface", "call", "numbers", "row", "wrong"]
theorem scAk : FnScope nAk ["surface", "call", "numbers", "row"] (defScope sAsked) := ⟨rfl, rfl, rfl, by decide +kernel, rfl, by decide +kernel, by decide +kernel⟩
def spAsked (K : PySem.W.Frag) (CS CR : Addr) : Sp := fun vs H Q E => ∃ (H0 : Hp) (p na ra : Addr) (s : Sy76.St) (x : Sy76.Call), vs = [.ref p, .int (num x), .ref na, .ref ra] ∧ 5 ≤ num x ∧ Same H0 H ∧ OwnS CS H0 H p s ∧ WF s ∧ SqL K H na (nv (nums x)) ∧ SqL K H ra (nv (rowOf x)) ∧ Short x ∧
  Acts CR (fun H0 H' s' => OwnS CS H0 H' p s') H0 s x Q E
theorem ok_asked {f fO fW fF fP fN fB fS : Addr} {fd fdO fdW fdF fdP fdN fdB fdS : FuncData} (F : Fun K "asked" "asked" sAsked f fd) (B : Blt mg) (S : SurfC K CS) (N : Nums mg)
    (GO : Fn P w K mg base CX0 1 "otherwise" fO fdO ["cells", "wanted"] (spOtherwise K)) (GW : Fn P w K mg base CX0 1 "with_length" fW fdW ["numbers"] spWithLen)
    (GF : Fn P w K mg base (L2.CX P w) 10 "fewest_told" fF fdF ["surface"] (spTold CS CR .fewest)) (GP : Fn P w K mg base (L2.CX P w) 10 "plan_told" fP fdP ["surface", "number"] (spPlanTold CS CR))
    (GN : Fn P w K mg base (L2.CX P w) 11 "needed_told" fN fdN ["surface"] (spTold CS CR .needed)) (GB : Fn P w K mg base (L2.CX P w) 4 "by_told" fB fdB ["surface", "numbers"] (spByTold K CS CR))
    (GS : Fn P w K mg base CX0 2 "state_told" fS fdS ["surface"] (spTold CS CR .state)) : FnOk P w K mg base (L2.CX P w) 12 f fd ["surface", "call", "numbers", "row"] (spAsked K CS CR) := by
  refine F.okX scAk (fun vs H Q E h => ?_) (fun cdv A outer s H vs Q E hr h => ?_)
  · obtain ⟨H0, p, na, ra, s, x, rfl, _⟩ := h
    rfl
  · obtain ⟨H0, p, na, ra, s, x, rfl, h5, s0, ho, wf, hna, hra, sh, acts⟩ := h
    have hr1 : Room 1 _ := hr.mono (by decide)
    refine ⟨_, pss_cons (ps_if (pt_cmpR op_eq (pv 1) (pe_num N.n5) (nomark _)) (pss_cons (ps_set (i := 4) scAk.nd rfl (Or.inl rfl) (pe_fn GO hr1 (pa_cons (pe_fldK K (pv 0)) (pa_cons (pe_fldK K (pv 0)) pa_nil))))
          (pss_one (ps_ret (pe_op op_cat (pe_lst (pa_cons (pe_len K B (pv 4)) pa_nil)) (pe_fn GW hr1 (pa_cons (pv 4) pa_nil)))))) pss_nil)
      (pss_cons (ps_if (pt_cmpR op_eq (pv 1) (pe_num N.n6) (nomark _)) (pss_one (ps_ret (pe_fnX (E := E) GF (hr.mono (by decide)) (takes_of rfl rfl rfl rfl) (fun _ _ _ _ h => h) (pa_cons (pv 0) pa_nil)))) pss_nil)
      (pss_cons (ps_if (pt_cmpR op_eq (pv 1) (pe_num N.n7) (nomark _)) (pss_one (ps_ret (pe_fnX (E := E) GP (hr.mono (by decide)) (takes_of rfl rfl rfl rfl) (fun _ _ _ _ h => h) (pa_cons (pv 0) (pa_cons (pe_ixL K (pv 2) pe_int) pa_nil))))) pss_nil)
      (pss_cons (ps_if (pt_cmpR op_eq (pv 1) (pe_num N.n8) (nomark _)) (pss_one (ps_ret (pe_fnX (E := E) GN hr (takes_of rfl rfl rfl rfl) (fun _ _ _ _ h => h) (pa_cons (pv 0) pa_nil)))) pss_nil)
      (pss_cons (ps_if (pt_cmpR op_eq (pv 1) (pe_num N.n9) (nomark _)) (pss_one (ps_ret (pe_fnX (E := E) GB (hr.mono (by decide)) (takes_of rfl rfl rfl rfl) (fun _ _ _ _ h => h) (pa_cons (pv 0) (pa_cons (pv 3) pa_nil))))) pss_nil)
      (pss_cons (ps_if (pt_cmpR op_eq (pv 1) (pe_num N.n10) (nomark _)) (pss_one (ps_ret (pe_op op_cat (pe_lst (pa_cons (pe_fldK K (pv 0)) pa_nil)) (pe_fn GW hr1 (pa_cons (pe_callTy call_list_of (by rfl) B.list (by decide +kernel) (pa_cons (pe_fldK K (pv 0)) pa_nil)) pa_nil))))) pss_nil)
      (pss_one (ps_ret (pe_fn GS (hr.mono (by decide)) (pa_cons (pv 0) pa_nil))))))))), ?_⟩
    obtain ⟨dx, ca, wa, ta, ts, hs, np, nc, nw, nt, nts⟩ := id ho
    have w25 := wf.wall25
    cases x with
    | begins r c => exact absurd h5 (by show ¬ (5 : Int) ≤ 0; decide)
    | stencil l => exact absurd h5 (by show ¬ (5 : Int) ≤ 1; decide)
    | picture l => exact absurd h5 (by show ¬ (5 : Int) ≤ 2; decide)
    | spray k c => exact absurd h5 (by show ¬ (5 : Int) ≤ 3; decide)
    | wash => exact absurd h5 (by decide)
    | wrong =>
      refine ⟨_, rfl, rfl, _, rfl, yes_ (by rfl) ?_⟩
      refine ⟨_, rfl, p, CS, dx, _, _, rfl, hs.obj, S.cl, S.nCe, sf_cells .., _, rfl, p, CS, dx, _, _, rfl, hs.obj, S.cl, S.nW, sf_wanted .., ca, wa, s.wall, s.picture, rfl, SqL.of hs.cells, SqL.of hs.wanted, by rw [wf.wall, wf.pic]; exact Nat.le_refl _, by omega, fun H1 z s1 _ hz1 => ?_⟩
      have dl : (diff s.wall s.picture).length ≤ 25 := by
        have h9 := List.length_filter_le (fun i => s.wall.getD i 0 != s.picture.getD i 0) (List.range s.wall.length)
        rw [List.length_range] at h9
        unfold diff
        omega
      refine ⟨_, rfl, z, _, rfl, .inl (SqL.of hz1), line_of (by show 1 ≤ 16777216; decide), fun l1 hl1 => ?_⟩
      have t1 := same_one (o := .lst [V.int ((nv (diff s.wall s.picture)).length : Nat)]) hl1
      refine ⟨_, rfl, z, _, rfl, t1 _ _ hz1, by rw [nv_len]; omega, fun H2 z2 s2 hz2 hz21 => ?_⟩
      refine ⟨l1, z2, _, _, rfl, rfl, s2 _ _ upd_same, hz21, ?_, fun zz hzz => ?_⟩
      · show 1 + ((nv (diff s.wall s.picture)).length + 1) ≤ sizeLine
        rw [nv_len]
        exact line_of (by omega)
      · have s6 := ((s1.trans t1).trans s2).trans (same_one (o := .lst ([V.int ((nv (diff s.wall s.picture)).length : Nat)] ++ V.int ((nv (diff s.wall s.picture)).length : Nat) :: nv (diff s.wall s.picture))) hzz)
        refine acts.1 _ zz (s0.trans s6) (ho.same s6) ?_
        have st : step s .wrong = (s, ⟨((diff s.wall s.picture).length : Nat), [Sy76.ints (diff s.wall s.picture)]⟩) := rfl
        rw [st]
        show upd _ _ (.lst ([V.int ((nv (diff s.wall s.picture)).length : Nat)] ++ V.int ((nv (diff s.wall s.picture)).length : Nat) :: nv (diff s.wall s.picture))) _ = _
        have e9 : (Sy76.ints (diff s.wall s.picture)).map V.int = nv (diff s.wall s.picture) := (nv_ints _).symm
        have e8 : (Sy76.ints (diff s.wall s.picture)).length = (diff s.wall s.picture).length := List.length_map ..
        rw [upd_same, outV_one, e9, e8, nv_len]
        rfl
    | fewest =>
      refine ⟨_, rfl, rfl, _, rfl, no_ (by rfl) ?_⟩
      refine ⟨_, rfl, rfl, _, rfl, yes_ (by rfl) ?_⟩
      exact ⟨_, rfl, H0, p, s, rfl, s0, ho, wf, acts⟩
    | plan k =>
      refine ⟨_, rfl, rfl, _, rfl, no_ (by rfl) ?_⟩
      refine ⟨_, rfl, rfl, _, rfl, no_ (by rfl) ?_⟩
      refine ⟨_, rfl, rfl, _, rfl, yes_ (by rfl) ?_⟩
      have g0 : atI (nv (nums (.plan k))) ((0 : Nat) : Int) = some (V.int (k : Int)) := atI_nat rfl
      exact ⟨_, rfl, _, rfl, na, _, _, _, rfl, rfl, hna, g0, H0, p, s, k, rfl, s0, ho, wf, acts⟩
    | needed =>
      refine ⟨_, rfl, rfl, _, rfl, no_ (by rfl) ?_⟩
      refine ⟨_, rfl, rfl, _, rfl, no_ (by rfl) ?_⟩
      refine ⟨_, rfl, rfl, _, rfl, no_ (by rfl) ?_⟩
      refine ⟨_, rfl, rfl, _, rfl, yes_ (by rfl) ?_⟩
      exact ⟨_, rfl, H0, p, s, rfl, s0, ho, wf, acts⟩
    | by_ l =>
      refine ⟨_, rfl, rfl, _, rfl, no_ (by rfl) ?_⟩
      refine ⟨_, rfl, rfl, _, rfl, no_ (by rfl) ?_⟩
      refine ⟨_, rfl, rfl, _, rfl, no_ (by rfl) ?_⟩
      refine ⟨_, rfl, rfl, _, rfl, no_ (by rfl) ?_⟩
      refine ⟨_, rfl, rfl, _, rfl, yes_ (by rfl) ?_⟩
      exact ⟨_, rfl, _, rfl, H0, p, ra, s, l, rfl, s0, ho, wf, hra, sh, acts⟩
    | wall =>
      refine ⟨_, rfl, rfl, _, rfl, no_ (by rfl) ?_⟩
      refine ⟨_, rfl, rfl, _, rfl, no_ (by rfl) ?_⟩
      refine ⟨_, rfl, rfl, _, rfl, no_ (by rfl) ?_⟩
      refine ⟨_, rfl, rfl, _, rfl, no_ (by rfl) ?_⟩
      refine ⟨_, rfl, rfl, _, rfl, no_ (by rfl) ?_⟩
      refine ⟨_, rfl, rfl, _, rfl, yes_ (by rfl) ?_⟩
      refine ⟨_, rfl, p, CS, dx, _, _, rfl, hs.obj, S.cl, S.nSp, sf_sprays .., line_of (by show 1 ≤ 16777216; decide), fun l1 hl1 => ?_⟩
      have t1 := same_one (o := .lst [V.int (s.done : Int)]) hl1
      have hs1 := hs.same t1
      refine ⟨_, rfl, p, CS, dx, _, _, rfl, hs1.obj, S.cl, S.nCe, sf_cells .., ca, _, rfl, .inl (SqL.of hs1.cells), fun l2 hl2 => ?_⟩
      have t2 := same_one (o := .lst (nv s.wall)) hl2
      refine ⟨l2, _, rfl, upd_same, by rw [nv_len]; omega, fun H2 z2 s2 hz2 hz21 => ?_⟩
      have h1' := s2 _ _ (t2 _ _ (show (upd _ l1 _) l1 = _ from upd_same))
      refine ⟨l1, z2, _, _, rfl, rfl, h1', hz21, ?_, fun zz hzz => ?_⟩
      · show 1 + ((nv s.wall).length + 1) ≤ sizeLine
        rw [nv_len]
        exact line_of (by omega)
      · have s6 := ((t1.trans t2).trans s2).trans (same_one (o := .lst ([V.int (s.done : Int)] ++ V.int ((nv s.wall).length : Nat) :: nv s.wall)) hzz)
        refine acts.1 _ zz (s0.trans s6) (ho.same s6) ?_
        have st : step s .wall = (s, ⟨(s.done : Nat), [Sy76.ints s.wall]⟩) := rfl
        rw [st]
        show upd _ _ (.lst ([V.int (s.done : Int)] ++ V.int ((nv s.wall).length : Nat) :: nv s.wall)) _ = _
        have e9 : (Sy76.ints s.wall).map V.int = nv s.wall := (nv_ints _).symm
        have e8 : (Sy76.ints s.wall).length = s.wall.length := List.length_map ..
        rw [upd_same, outV_one, e9, e8, nv_len]
        rfl
    | state =>
      refine ⟨_, rfl, rfl, _, rfl, no_ (by rfl) ?_⟩
      refine ⟨_, rfl, rfl, _, rfl, no_ (by rfl) ?_⟩
      refine ⟨_, rfl, rfl, _, rfl, no_ (by rfl) ?_⟩
      refine ⟨_, rfl, rfl, _, rfl, no_ (by rfl) ?_⟩
      refine ⟨_, rfl, rfl, _, rfl, no_ (by rfl) ?_⟩
      refine ⟨_, rfl, rfl, _, rfl, no_ (by rfl) ?_⟩
      exact ⟨_, rfl, H0, p, s, rfl, s0, ho, wf, acts.1, fun _ _ _ _ _ _ z => nomatch (show (3 : Nat) = 0 from congrArg (fun a => a.2.l.length) z)⟩
end
end SW

namespace SW
open PySem PySem.Spec PyProof.Rows L2
open Sy76 (step ok)
section
variable {P : Program} {w : World} {K : PySem.W.Frag} {mg : Str → Option Value} {base : Heap} {CS CW CR : Addr}
/-- the wall's own surface, as those see it that know the wall too -/
theorem WallAt.acts {H0 H : Hp} {q : Addr} {s : Sy76.St} (s0 : Same H0 H) (h : WallAt CW CS H0 H q s) : ∃ (dq p : Addr) (H1 : Hp), H q = some (.ins CW dq (wf1 p)) ∧ Same H1 H ∧ OwnS CS H1 H p s ∧
    ∀ (x : Sy76.Call) (Q : VK) (E : XK), Acts CR (fun H0 H' s' => WallAt CW CS H0 H' q s') H0 s x Q E → Acts CR (fun H0 H' s' => OwnS CS H0 H' p s') H1 s x Q E := by
  obtain ⟨n0, dq, p, hq, dx, c, w, t, ts, hs, h1, h2, h3, h4, h5⟩ := h
  have s01 : Same H0 (upd H0 q (.ins CW dq (wf1 p))) := same_put (Same.refl _) n0
  have up : ∀ {a : Addr}, a ≠ q → H0 a = none → upd H0 q (.ins CW dq (wf1 p)) a = none := fun hn h => by rw [upd_ne hn]; exact h
  have nl : ∀ {b : Addr} {l : List V}, H b = some (.lst l) → b ≠ q := fun h => ne_of h hq (fun z => by cases z)
  refine ⟨dq, p, upd H0 q (.ins CW dq (wf1 p)), hq, fun b o e => ?_, ⟨dx, c, w, t, ts, hs, up ?_ h1, up (nl hs.cells) h2, up (nl hs.wanted) h3, up (nl hs.sten) h4, fun a ha => up ?_ (h5 a ha)⟩, fun x Q E a => ⟨fun H' z s1 own hz => ?_, fun H' d c s1 own hd st => ?_⟩⟩
  · by_cases hb : b = q
    · rw [hb, upd_same] at e
      rw [hb, hq]
      exact e
    · rw [upd_ne hb] at e
      exact s0 _ _ e
  · refine ne_of hs.obj hq (fun z => ?_)
    injection z with _ _ z
    have := congrArg List.length z
    cases this
  · obtain ⟨i, hi⟩ := List.mem_iff_getElem?.mp ha
    obtain ⟨m, _, hm⟩ := paired_get' hs.each hi
    exact nl (show H a = some (.lst (nv m)) from hm)
  · exact a.1 H' z (s01.trans s1) ⟨n0, dq, p, s1 _ _ upd_same, own.weak s01⟩ hz
  · exact a.2 H' d c (s01.trans s1) ⟨n0, dq, p, s1 _ _ upd_same, own.weak s01⟩ hd st
/-! ### answered -/
abbrev nAn : List Str := ["wall", "call", "numbers", "row", "surface"]
theorem scAn : FnScope nAn ["wall", "call", "numbers", "row"] (defScope sAnswered) := ⟨rfl, rfl, rfl, by decide +kernel, rfl, by decide +kernel, by decide +kernel⟩
def spAnswered (K : PySem.W.Frag) (CW CS CR : Addr) : Sp := fun vs H Q E => ∃ (H0 : Hp) (q na ra : Addr) (s : Sy76.St) (x : Sy76.Call), vs = [.ref q, .int (num x), .ref na, .ref ra] ∧ Same H0 H ∧ WallAt CW CS H0 H q s ∧ WF s ∧ SqL K H na (nv (nums x)) ∧ SqL K H ra (nv (rowOf x)) ∧ Short x ∧
  Acts CR (fun H0 H' s' => WallAt CW CS H0 H' q s') H0 s x Q E
theorem ok_answered {f fB fT fP fS fW fA : Addr} {fd fdB fdT fdP fdS fdW fdA : FuncData} (F : Fun K "answered" "answered" sAnswered f fd) (W : WallC K CW) (N : Nums mg)
    (GB : Fn P w K mg base (L2.CX P w) 4 "begins" fB fdB ["wall", "many_rows", "many_columns"] (spBegins CW CS CR)) (GT : Fn P w K mg base (L2.CX P w) 4 "stencil_put" fT fdT ["surface", "cells"] (spStencilPut K CS CR))
    (GP : Fn P w K mg base (L2.CX P w) 4 "picture_set" fP fdP ["surface", "wanted"] (spPictureSet (K := K) CS CR)) (GS : Fn P w K mg base (L2.CX P w) 4 "spray_done" fS fdS ["surface", "stencil", "colour"] (spSprayDone CS CR))
    (GW : Fn P w K mg base CX0 3 "washed" fW fdW ["surface"] (spWashed CS)) (GA : Fn P w K mg base (L2.CX P w) 12 "asked" fA fdA ["surface", "call", "numbers", "row"] (spAsked K CS CR)) :
    FnOk P w K mg base (L2.CX P w) 13 f fd ["wall", "call", "numbers", "row"] (spAnswered K CW CS CR) := by
  refine F.okX scAn (fun vs H Q E h => ?_) (fun cdv A outer s H vs Q E hr h => ?_)
  · obtain ⟨H0, q, na, ra, s, x, rfl, _⟩ := h
    rfl
  · obtain ⟨H0, q, na, ra, s, x, rfl, s0, hw, wf, hna, hra, sh, acts⟩ := h
    have hr4 : Room 4 _ := hr.mono (by decide)
    refine ⟨_, pss_cons (ps_set (i := 4) scAn.nd rfl (Or.inl rfl) (pe_fldK K (pv 0)))
      (pss_cons (ps_if (pt_cmpR op_eq (pv 1) (pe_num N.n0) (nomark _)) (pss_one (ps_ret (pe_fnX (E := E) GB hr4 (takes_of rfl rfl rfl rfl) (fun _ _ _ _ h => h) (pa_cons (pv 0) (pa_cons (pe_ixL K (pv 2) pe_int) (pa_cons (pe_ixL K (pv 2) pe_int) pa_nil)))))) pss_nil)
      (pss_cons (ps_if (pt_cmpR op_eq (pv 1) (pe_num N.n1) (nomark _)) (pss_one (ps_ret (pe_fnX (E := E) GT hr4 (takes_of rfl rfl rfl rfl) (fun _ _ _ _ h => h) (pa_cons (pv 4) (pa_cons (pv 3) pa_nil))))) pss_nil)
      (pss_cons (ps_if (pt_cmpR op_eq (pv 1) (pe_num N.n2) (nomark _)) (pss_one (ps_ret (pe_fnX (E := E) GP hr4 (takes_of rfl rfl rfl rfl) (fun _ _ _ _ h => h) (pa_cons (pv 4) (pa_cons (pv 3) pa_nil))))) pss_nil)
      (pss_cons (ps_if (pt_cmpR op_eq (pv 1) (pe_num N.n3) (nomark _)) (pss_one (ps_ret (pe_fnX (E := E) GS hr4 (takes_of rfl rfl rfl rfl) (fun _ _ _ _ h => h) (pa_cons (pv 4) (pa_cons (pe_ixL K (pv 2) pe_int) (pa_cons (pe_ixL K (pv 2) pe_int) pa_nil)))))) pss_nil)
      (pss_cons (ps_if (pt_cmpR op_eq (pv 1) (pe_num N.n4) (nomark _)) (pss_one (ps_ret (pe_fn GW (hr.mono (by decide)) (pa_cons (pv 4) pa_nil)))) pss_nil)
      (pss_one (ps_ret (pe_fnX (E := E) GA hr (takes_of rfl rfl rfl rfl) (fun _ _ _ _ h => h) (pa_cons (pv 4) (pa_cons (pv 1) (pa_cons (pv 2) (pa_cons (pv 3) pa_nil)))))))))))), ?_⟩
    obtain ⟨dq, p, H1, hq, s1, own, tr⟩ := hw.acts (CR := CR) s0
    refine ⟨_, rfl, q, CW, dq, _, _, rfl, hq, W.cl, W.nS, wf1_get p, ?_⟩
    have rest : 5 ≤ num x → (tRet (tCall (spAsked K CS CR) [] E (tCons (tVar 4) (tCons (tVar 1) (tCons (tVar 2) (tCons (tVar 3) tNil)))))) { nx := fun _ H' => Q .non H', rt := Q } [some (.ref q), some (.int (num x)), some (.ref na), some (.ref ra), some (.ref p)] H := fun h5 =>
      ⟨_, rfl, _, rfl, _, rfl, _, rfl, H1, p, na, ra, s, x, rfl, h5, s1, own, wf, hna, hra, sh, tr x Q E acts⟩
    cases x with
    | begins r c =>
      refine ⟨_, rfl, rfl, _, rfl, yes_ (by rfl) ?_⟩
      have g0 : atI (nv (nums (.begins r c))) ((0 : Nat) : Int) = some (V.int (r : Int)) := atI_nat rfl
      have g1 : atI (nv (nums (.begins r c))) ((1 : Nat) : Int) = some (V.int (c : Int)) := atI_nat rfl
      exact ⟨_, rfl, _, rfl, na, _, _, _, rfl, rfl, hna, g0, _, rfl, na, _, _, _, rfl, rfl, hna, g1, H0, q, s, r, c, rfl, s0, hw, acts⟩
    | stencil l =>
      refine ⟨_, rfl, rfl, _, rfl, no_ (by rfl) ?_⟩
      refine ⟨_, rfl, rfl, _, rfl, yes_ (by rfl) ?_⟩
      exact ⟨_, rfl, _, rfl, H1, p, ra, s, l, rfl, s1, own, wf, hra, sh, tr _ Q E acts⟩
    | picture l =>
      refine ⟨_, rfl, rfl, _, rfl, no_ (by rfl) ?_⟩
      refine ⟨_, rfl, rfl, _, rfl, no_ (by rfl) ?_⟩
      refine ⟨_, rfl, rfl, _, rfl, yes_ (by rfl) ?_⟩
      exact ⟨_, rfl, _, rfl, H1, p, ra, s, l, rfl, s1, own, wf, hra, sh, tr _ Q E acts⟩
    | spray k c =>
      refine ⟨_, rfl, rfl, _, rfl, no_ (by rfl) ?_⟩
      refine ⟨_, rfl, rfl, _, rfl, no_ (by rfl) ?_⟩
      refine ⟨_, rfl, rfl, _, rfl, no_ (by rfl) ?_⟩
      refine ⟨_, rfl, rfl, _, rfl, yes_ (by rfl) ?_⟩
      have g0 : atI (nv (nums (.spray k c))) ((0 : Nat) : Int) = some (V.int (k : Int)) := atI_nat rfl
      have g1 : atI (nv (nums (.spray k c))) ((1 : Nat) : Int) = some (V.int (c : Int)) := atI_nat rfl
      exact ⟨_, rfl, _, rfl, na, _, _, _, rfl, rfl, hna, g0, _, rfl, na, _, _, _, rfl, rfl, hna, g1, H1, p, s, k, c, rfl, s1, own, wf, tr _ Q E acts⟩
    | wash =>
      refine ⟨_, rfl, rfl, _, rfl, no_ (by rfl) ?_⟩
      refine ⟨_, rfl, rfl, _, rfl, no_ (by rfl) ?_⟩
      refine ⟨_, rfl, rfl, _, rfl, no_ (by rfl) ?_⟩
      refine ⟨_, rfl, rfl, _, rfl, no_ (by rfl) ?_⟩
      refine ⟨_, rfl, rfl, _, rfl, yes_ (by rfl) ?_⟩
      have a2 := tr _ Q E acts
      exact ⟨_, rfl, H1, p, s, rfl, s1, own, wf, a2.1⟩
    | wrong =>
      refine ⟨_, rfl, rfl, _, rfl, no_ (by rfl) ?_⟩
      refine ⟨_, rfl, rfl, _, rfl, no_ (by rfl) ?_⟩
      refine ⟨_, rfl, rfl, _, rfl, no_ (by rfl) ?_⟩
      refine ⟨_, rfl, rfl, _, rfl, no_ (by rfl) ?_⟩
      refine ⟨_, rfl, rfl, _, rfl, no_ (by rfl) ?_⟩
      exact rest (by show (5 : Int) ≤ 5; decide)
    | fewest =>
      refine ⟨_, rfl, rfl, _, rfl, no_ (by rfl) ?_⟩
      refine ⟨_, rfl, rfl, _, rfl, no_ (by rfl) ?_⟩
      refine ⟨_, rfl, rfl, _, rfl, no_ (by rfl) ?_⟩
      refine ⟨_, rfl, rfl, _, rfl, no_ (by rfl) ?_⟩
      refine ⟨_, rfl, rfl, _, rfl, no_ (by rfl) ?_⟩
      exact rest (by show (5 : Int) ≤ 6; decide)
    | plan k =>
      refine ⟨_, rfl, rfl, _, rfl, no_ (by rfl) ?_⟩
      refine ⟨_, rfl, rfl, _, rfl, no_ (by rfl) ?_⟩
      refine ⟨_, rfl, rfl, _, rfl, no_ (by rfl) ?_⟩
      refine ⟨_, rfl, rfl, _, rfl, no_ (by rfl) ?_⟩
      refine ⟨_, rfl, rfl, _, rfl, no_ (by rfl) ?_⟩
      exact rest (by show (5 : Int) ≤ 7; decide)
    | needed =>
      refine ⟨_, rfl, rfl, _, rfl, no_ (by rfl) ?_⟩
      refine ⟨_, rfl, rfl, _, rfl, no_ (by rfl) ?_⟩
      refine ⟨_, rfl, rfl, _, rfl, no_ (by rfl) ?_⟩
      refine ⟨_, rfl, rfl, _, rfl, no_ (by rfl) ?_⟩
      refine ⟨_, rfl, rfl, _, rfl, no_ (by rfl) ?_⟩
      exact rest (by show (5 : Int) ≤ 8; decide)
    | by_ l =>
      refine ⟨_, rfl, rfl, _, rfl, no_ (by rfl) ?_⟩
      refine ⟨_, rfl, rfl, _, rfl, no_ (by rfl) ?_⟩
      refine ⟨_, rfl, rfl, _, rfl, no_ (by rfl) ?_⟩
      refine ⟨_, rfl, rfl, _, rfl, no_ (by rfl) ?_⟩
      refine ⟨_, rfl, rfl, _, rfl, no_ (by rfl) ?_⟩
      exact rest (by show (5 : Int) ≤ 9; decide)
    | wall =>
      refine ⟨_, rfl, rfl, _, rfl, no_ (by rfl) ?_⟩
      refine ⟨_, rfl, rfl, _, rfl, no_ (by rfl) ?_⟩
      refine ⟨_, rfl, rfl, _, rfl, no_ (by rfl) ?_⟩
      refine ⟨_, rfl, rfl, _, rfl, no_ (by rfl) ?_⟩
      refine ⟨_, rfl, rfl, _, rfl, no_ (by rfl) ?_⟩
      exact rest (by show (5 : Int) ≤ 10; decide)
    | state =>
      refine ⟨_, rfl, rfl, _, rfl, no_ (by rfl) ?_⟩
      refine ⟨_, rfl, rfl, _, rfl, no_ (by rfl) ?_⟩
      refine ⟨_, rfl, rfl, _, rfl, no_ (by rfl) ?_⟩
      refine ⟨_, rfl, rfl, _, rfl, no_ (by rfl) ?_⟩
      refine ⟨_, rfl, rfl, _, rfl, no_ (by rfl) ?_⟩
      exact rest (by show (5 : Int) ≤ 11; decide)
end
end SW

namespace SW
open PySem PySem.Spec PyProof.Rows L2
open Sy76 (step ok)
section
variable {P : Program} {w : World} {K : PySem.W.Frag} {mg : Str → Option Value} {base : Heap} {CS CW CR fR : Addr}
/-! ### outcome -/
abbrev nOu : List Str := ["wall", "call", "numbers", "row", "found", "e"]
theorem scOu : FnScope nOu ["wall", "call", "numbers", "row"] (defScope sOutcome) := ⟨rfl, rfl, rfl, by decide +kernel, rfl, by decide +kernel, by decide +kernel⟩
def spOutcome (K : PySem.W.Frag) (CW CS : Addr) : Sp := fun vs H Q _ => ∃ (H0 : Hp) (q na ra : Addr) (s : Sy76.St) (x : Sy76.Call), vs = [.ref q, .int (num x), .ref na, .ref ra] ∧ Same H0 H ∧ WallAt CW CS H0 H q s ∧ WF s ∧ SqL K H na (nv (nums x)) ∧ SqL K H ra (nv (rowOf x)) ∧ Short x ∧
  ∀ (H' : Hp) (z : Addr), Same H0 H' → WallAt CW CS H0 H' q (step s x).1 → H' z = some (.lst (outV (step s x).2)) → Q (.ref z) H'
/-- found = [e.code] -/
def t_suite (CR : Addr) : Addr → Value → Option Addr → TS := fun a cls d => tAsg (tLst (tCons (tXf a cls d CR "code" (tVar 5)) tNil)) (gName 4)
theorem ok_outcome {f fA : Addr} {fd fdA : FuncData} (F : Fun K "outcome" "outcome" sOutcome f fd) (T : RefC K CR fR) (gR : mg "Refused" = some (.ref CR)) (te : PySem.W.exmOne K (.ref CR) (.ref CR) = some true)
    (GA : Fn P w K mg base (L2.CX P w) 13 "answered" fA fdA ["wall", "call", "numbers", "row"] (spAnswered K CW CS CR)) : FnOk P w K mg base CX0 14 f fd ["wall", "call", "numbers", "row"] (spOutcome K CW CS) := by
  refine F.ok scOu (fun vs H Q E h => ?_) (fun cdv A outer s H vs Q E hr h => ?_)
  · obtain ⟨H0, q, na, ra, s, x, rfl, _⟩ := h
    rfl
  · obtain ⟨H0, q, na, ra, s, x, rfl, s0, hw, wf, hna, hra, sh, k⟩ := h
    refine ⟨_, pss_cons (ps_try_as (i := 5) (tb := fun W => tAsg (tCallS (spAnswered K CW CS CR) (WE W) (tCons (tVar 0) (tCons (tVar 1) (tCons (tVar 2) (tCons (tVar 3) tNil))))) (gName 4)) (ts := t_suite CR) (Wout := fun _ _ _ _ => False) rfl rfl scOu.nd rfl rfl ⟨rfl, by decide, Or.inl gR⟩ takes0
        (fun W pn xe tk _ => pss_one (ps_set (i := 4) scOu.nd rfl (Or.inl rfl) (by exact (pe_callS GA.ok hr rfl GA.gm GA.kp GA.bi (fun σ => passAt tk σ) (by exact (pa_cons (pv 0) (pa_cons (pv 1) (pa_cons (pv 2) (pa_cons (pv 3) pa_nil)))))))))
        (fun a oe cls d pn hz hf => pss_one (ps_set (i := 4) scOu.nd rfl (Or.inl rfl) (by exact (pe_lst (pa_cons (pe_xf T.xf T.nCode hz hf (pv 5)) pa_nil))))))
      (pss_one (ps_ret (pv 4))), ?_⟩
    refine ⟨_, rfl, _, rfl, _, rfl, _, rfl, H0, q, na, ra, s, x, rfl, s0, hw, wf, hna, hra, sh, fun H1 z s1 hw1 hz => ?_, fun H1 d c s1 hw1 hd st => ?_⟩
    · exact ⟨_, rfl, k H1 z s1 hw1 hz⟩
    · refine ⟨true, te, (fun _ a ha => ?_), (fun z => Bool.noConfusion z)⟩
      refine ⟨_, rfl, rfl, rfl, d, _, .int c, rfl, hd, by simp [List.lookup], line_of (by show 1 ≤ 16777216; decide), fun z hz => ⟨_, rfl, ?_⟩⟩
      rw [st] at k
      have t1 := same_one (o := .lst [V.int c]) hz
      exact k _ z (s1.trans t1) (hw1.same t1) upd_same
/-! ### answers -/
theorem OwnS.dom {H0 H1 H : Hp} {p : Addr} {s : Sy76.St} (e : ∀ b, H0 b = none → H1 b = none) (h : OwnS CS H0 H p s) : OwnS CS H1 H p s := by
  obtain ⟨dx, c, w, t, ts, hs, h1, h2, h3, h4, h5⟩ := h
  exact ⟨dx, c, w, t, ts, hs, e _ h1, e _ h2, e _ h3, e _ h4, fun a ha => e _ (h5 a ha)⟩
theorem WallAt.dom {H0 H1 H : Hp} {q : Addr} {s : Sy76.St} (e : ∀ b, H0 b = none → H1 b = none) (h : WallAt CW CS H0 H q s) : WallAt CW CS H1 H q s := by
  obtain ⟨h0, dq, p, hq, ho⟩ := h
  exact ⟨e _ h0, dq, p, hq, ho.dom e⟩
/-- a new thing that others will know -/
theorem WallAt.fresh {H0 H : Hp} {q b : Addr} {s : Sy76.St} {o o' : HO} (hb : H b = none) (h : WallAt CW CS H0 H q s) : WallAt CW CS (upd H0 b o) (upd H b o') q s := by
  have t1 : Same H (upd H b o') := same_one hb
  have up : ∀ {a : Addr} {u : HO}, H a = some u → H0 a = none → upd H0 b o a = none := fun ha n => by rw [upd_ne (ne_of_none ha hb)]; exact n
  obtain ⟨h0, dq, p, hq, dx, c, w, t, ts, hs, h1, h2, h3, h4, h5⟩ := h
  refine ⟨up hq h0, dq, p, t1 _ _ hq, dx, c, w, t, ts, hs.same t1, up hs.obj h1, up hs.cells h2, up hs.wanted h3, up hs.sten h4, fun a ha => ?_⟩
  obtain ⟨i, hi⟩ := List.mem_iff_getElem?.mp ha
  obtain ⟨m, _, hm⟩ := paired_get' hs.each hi
  exact up (show H a = some (.lst (nv m)) from hm) (h5 a ha)
def TupG (K : PySem.W.Frag) (mg : Str → Option Value) (x : Str) (xs : List V) : Prop := ∃ a, mg x = some (.ref a) ∧ ∀ H : Hp, SqT K H a xs
theorem cut_is {xs : List V} {lo hi : Int} {a b : Nat} (h1 : lo = (a : Int)) (h2 : hi = (b : Int)) (hab : a ≤ b) (hb : b ≤ xs.length) : cutV xs (some lo) (some hi) = (xs.drop a).take (b - a) := by
  unfold cutV
  rw [h1, h2, HT.sIx_nat, HT.sIx_nat, Nat.min_eq_left hb, Nat.min_eq_left (Nat.le_trans hab hb)]
def numV : List V := [2, 0, 0, 2, 0, 0, 0, 1, 0, 0, 0, 0].map fun (n : Int) => V.int n
def lisV : List V := [1, 2, 9].map fun (n : Int) => V.int n
theorem numV_at (x : Sy76.Call) : atI numV (num x) = some (.int ((nums x).length : Nat)) := by cases x <;> rfl
theorem lisV_at (x : Sy76.Call) : inV (.int (num x)) lisV = listed x := by cases x <;> rfl
theorem zs_nv (l : List Nat) : (zs l).map V.int = nv l := (nv_ints l).symm
theorem zs_len (l : List Nat) : (zs l).length = l.length := List.length_map ..
theorem not_listed {x : Sy76.Call} (h : listed x = false) : rowOf x = [] := by cases x <;> first | rfl | cases h
abbrev nAw : List Str := ["calls", "wall", "found", "place", "call", "end", "numbers", "row", "some"]
theorem scAw : FnScope nAw ["calls"] (defScope sAnswers) := ⟨rfl, rfl, rfl, by decide +kernel, rfl, by decide +kernel, by decide +kernel⟩
def spAns (K : PySem.W.Frag) : Sp := fun vs H Q _ => ∃ (a : Addr) (ns : List Int), vs = [.ref a] ∧ SqL K H a (ns.map V.int) ∧ PySy76.answers_asked ns = true ∧ ∀ (H' : Hp) (p : Addr), H' p = some (.lst ((PySy76.answers ns).map V.int)) → Q (.ref p) H'
theorem ok_answers {f fO fI : Addr} {fd fdO fdI : FuncData} (F : Fun K "answers" "answers" sAnswers f fd) (B : Blt mg) (TN : TupG K mg "NUMBERS" numV) (TL : TupG K mg "LISTED" lisV) (gW : mg "Wall" = some (.ref CW)) (M : Mk K CW fI) (bI : Binds K fdI ["self"] [])
    (GI : FnOk P w K mg base CX0 3 fI fdI ["self"] (spWallI CW CS)) (GO : Fn P w K mg base CX0 14 "outcome" fO fdO ["wall", "call", "numbers", "row"] (spOutcome K CW CS)) : FnOk P w K mg base CX0 15 f fd ["calls"] (spAns K) := by
  refine F.ok scAw (fun vs H Q E h => ?_) (fun cdv A outer s H vs Q E hr h => ?_)
  · obtain ⟨a, ns, rfl, _⟩ := h
    rfl
  · obtain ⟨a, ns, rfl, ha, has, k⟩ := h
    obtain ⟨aN, gN, tN⟩ := TN
    obtain ⟨aL, gL, tL⟩ := TL
    refine ⟨_, pss_cons (ps_set (i := 1) scAw.nd rfl (Or.inl rfl) (pe_make0 M GI (hr.mono (by decide)) rfl gW bI .nil pass0)) (pss_cons (ps_set (i := 2) scAw.nd rfl (Or.inl rfl) (pe_lst pa_nil)) (pss_cons (ps_set (i := 3) scAw.nd rfl (Or.inl rfl) pe_int)
      (pss_cons (ps_while PassesOwn.never (pt_cmpR op_lt (pv 3) (pe_len K B (pv 0)) (nomark _))
        (pss_cons (ps_set (i := 4) scAw.nd rfl (Or.inl rfl) (pe_ixL K (pv 0) (pv 3)))
        (pss_cons (ps_set (i := 5) scAw.nd rfl (Or.inl rfl) (pe_op op_add (pe_op op_add (pv 3) pe_int) (pe_ixT K (pe_glob (v := .ref aN) rfl gN rfl) (pv 4))))
        (pss_cons (ps_set (i := 6) scAw.nd rfl (Or.inl rfl) (pe_slice sl_list (pv 0) (po_some (pe_op op_add (pv 3) pe_int)) (po_some (pv 5))))
        (pss_cons (ps_set (i := 7) scAw.nd rfl (Or.inl rfl) (pe_lst pa_nil))
        (pss_cons (ps_if (pt_in K (pv 4) (pe_glob (v := .ref aL) rfl gL rfl))
            (pss_cons (ps_set (i := 7) scAw.nd rfl (Or.inl rfl) (pe_slice sl_list (pv 0) (po_some (pe_op op_add (pv 5) pe_int)) (po_some (pe_op op_add (pe_op op_add (pv 5) pe_int) (pe_ixL K (pv 0) (pv 5))))))
            (pss_one (ps_set (i := 5) scAw.nd rfl (Or.inl rfl) (pe_op op_add (pe_op op_add (pv 5) pe_int) (pe_ixL K (pv 0) (pv 5)))))) pss_nil)
        (pss_cons (ps_set (i := 8) scAw.nd rfl (Or.inl rfl) (pe_fn GO hr (pa_cons (pv 1) (pa_cons (pv 4) (pa_cons (pv 6) (pa_cons (pv 7) pa_nil))))))
        (pss_cons (ps_expr (pe_bm PySem.F.plainAttrs_list PySem.F.slot_list_extend PySem.F.type_list_extend mt_extend (pv 2) (pa_cons (pe_op op_cat (pe_lst (pa_cons (pe_len K B (pv 8)) pa_nil)) (pv 8)) pa_nil)))
        (pss_one (ps_set (i := 3) scAw.nd rfl (Or.inl rfl) (pv 5)))))))))))
      (pss_one (ps_ret (pv 2)))))), ?_⟩
    obtain ⟨cs0, ah0, tot, big⟩ := asked_ahead has
    -- wall = Wall()
    intro x dx nx ndx nex
    have sN : Same H (upd (upd H dx (.own x)) x (.ins CW dx [])) := fun b o e => by
      rw [upd_ne (ne_of_none e nx), upd_ne (ne_of_none e ndx)]
      exact e
    refine ⟨H, x, dx, rfl, sN, nx, upd_same, fun H1 s1 hw1 => ⟨rfl, ?_⟩⟩
    -- found = [], place = 0
    refine ⟨Nat.zero_le _, fun fo hfo => ?_⟩
    have nfo : H fo = none := s1.free hfo
    have s2 : Same H (upd H1 fo (.lst [])) := s1.trans (same_one hfo)
    have hw2 : WallAt CW CS (upd H fo (.lst [])) (upd H1 fo (.lst [])) x (newSt 1 1) := hw1.fresh hfo
    have h2f : (upd H1 fo (.lst [])) fo = some (.lst []) := upd_same
    generalize (upd H1 fo (.lst [])) = H2 at s2 hw2 h2f ⊢
    refine ⟨fun m σ H' => ∃ (pl : Nat) (s : Sy76.St) (out : List Int) (f : Nat) (cs : List (List (List Int))) (v4 v5 v6 v7 v8 : Option V), m = ns.length - pl ∧ σ = [some (.ref a), some (.ref x), some (.ref fo), some (.int (pl : Int)), v4, v5, v6, v7, v8] ∧ pl ≤ ns.length ∧ Same H H' ∧
        H' fo = some (.lst (out.map V.int)) ∧ WallAt CW CS (upd H fo (.lst (out.map V.int))) H' x s ∧ WF s ∧ Ahead f (ns.drop pl) cs ∧ PySy76.answers ns = out ++ toldFrom s cs,
      ⟨_, 0, Sy76.init, [], _, cs0, none, none, none, none, none, rfl, rfl, Nat.zero_le _, s2, h2f, hw2, wf_init, ah0, tot⟩, ?_⟩
    rintro m σ H' ⟨pl, s, out, f, cs, v4, v5, v6, v7, v8, rfl, rfl, hpl, s3, hf, hw, wf, ah, al⟩
    have ha3 := s3.seq ha
    refine ⟨_, rfl, _, rfl, a, _, rfl, .inl ha3, _, _, rfl, rfl, _, rfl, ?_⟩
    rw [List.length_map]
    by_cases hlt : pl < ns.length
    rotate_left
    · refine no_ (decide_eq_false (by omega)) ?_
      have e : ns.drop pl = [] := List.drop_eq_nil_of_le (by omega)
      rw [e] at ah
      rw [ahead_nil ah, List.append_nil] at al
      refine ⟨_, rfl, k H' fo ?_⟩
      rw [hf, al]
    refine yes_ (decide_eq_true (by omega)) ?_
    have hdrop : ns.drop pl = ns[pl] :: ns.drop (pl + 1) := List.drop_eq_getElem_cons hlt
    rw [hdrop] at ah
    obtain ⟨xc, t, f', cs', en, sh, ah', tl⟩ := ahead_cons (s := s) ah
    rw [tl] at al
    have e1 : ns[pl] = num xc := by
      have := List.cons.inj en
      exact this.1
    have e2 : ns.drop (pl + 1) = zs (nums xc) ++ ((if listed xc = true then ((rowOf xc).length : Int) :: zs (rowOf xc) else []) ++ t) := by
      exact (List.cons.inj en).2.trans (List.append_assoc _ _ _)
    generalize hk : (nums xc).length = kn
    have e3 : ns.drop (pl + 1 + kn) = (if listed xc = true then ((rowOf xc).length : Int) :: zs (rowOf xc) else []) ++ t := by
      rw [← List.drop_drop, e2, List.drop_left' (by rw [zs_len, hk])]
    have l1 : ns.length - (pl + 1) = kn + ((if listed xc = true then ((rowOf xc).length : Int) :: zs (rowOf xc) else []) ++ t).length := by
      have := congrArg List.length e2
      rw [List.length_drop, List.length_append, zs_len, hk] at this
      exact this
    have g0 : atI (ns.map V.int) (pl : Int) = some (V.int (num xc)) := atI_nat (by rw [List.getElem?_map, List.getElem?_eq_getElem hlt, e1]; rfl)
    -- the answers
    generalize hans : Sy76Neutral.out (step s xc).2 = ans at al
    have hans2 : outV (step s xc).2 = ans.map V.int := by
      unfold outV
      rw [hans]
    have lal : out.length + (ans.length + 1) ≤ 10000000 := by
      rw [al, List.length_append, List.length_cons, List.length_append] at big
      omega
    refine ⟨_, fun _ _ h => h, ?_⟩
    refine ⟨_, rfl, _, rfl, a, _, _, _, rfl, rfl, ha3, g0, ?_⟩
    refine ⟨_, rfl, _, _, rfl, rfl, _, rfl, aN, numV, _, _, rfl, rfl, tN _, numV_at xc, _, _, rfl, rfl, ?_⟩
    rw [hk]
    refine ⟨_, rfl, _, rfl, _, _, rfl, rfl, _, rfl, _, rfl, _, rfl, a, _, rfl, ha3, fun na hna => ?_⟩
    have cut1 : cutV (ns.map V.int) (some ((pl : Int) + 1)) (some ((pl : Int) + 1 + (kn : Nat))) = nv (nums xc) := by
      rw [cut_is (a := pl + 1) (b := pl + 1 + kn) (by omega) (by omega) (by omega) (by rw [List.length_map]; omega), ← List.map_drop, ← List.map_take, e2]
      have e9 : pl + 1 + kn - (pl + 1) = kn := by omega
      rw [e9, List.take_left' (by rw [zs_len, hk]), zs_nv]
    have t1 : Same H' (upd H' na (.lst (cutV (ns.map V.int) (some ((pl : Int) + 1)) (some ((pl : Int) + 1 + (kn : Nat)))))) := same_one hna
    have h1n : (upd H' na (.lst (cutV (ns.map V.int) (some ((pl : Int) + 1)) (some ((pl : Int) + 1 + (kn : Nat)))))) na = some (.lst (nv (nums xc))) := by rw [upd_same, cut1]
    generalize (upd H' na (.lst (cutV (ns.map V.int) (some ((pl : Int) + 1)) (some ((pl : Int) + 1 + (kn : Nat)))))) = H3 at t1 h1n ⊢
    -- row = []
    refine ⟨Nat.zero_le _, fun ra hra => ?_⟩
    have t2 : Same H3 (upd H3 ra (.lst [])) := same_one hra
    have h2r : (upd H3 ra (.lst [])) ra = some (.lst (nv [])) := upd_same
    generalize (upd H3 ra (.lst [])) = H4 at t2 h2r ⊢
    -- what follows
    have fin : ∀ (H5 : Hp) (rb : Addr) (e : Nat), Same H4 H5 → H5 rb = some (.lst (nv (rowOf xc))) → e ≤ ns.length → pl < e → ns.drop e = t →
        (tSeq (tAsg (tCall (spOutcome K CW CS) [] E0 (tCons (tVar 1) (tCons (tVar 4) (tCons (tVar 6) (tCons (tVar 7) tNil))))) (gName 8))
          (tSeq (tDrop (tBM K "list" rExtend (tVar 2) (tCons (tOp rCat (tLst (tCons (tCB (rLen K) (tCons (tVar 8) tNil)) tNil)) (tVar 8)) tNil))) (tAsg (tVar 5) (gName 3))))
          { nx := fun σ' H'' => ∃ m', m' < ns.length - pl ∧ ∃ (pl : Nat) (s : Sy76.St) (out : List Int) (f : Nat) (cs : List (List (List Int))) (v4 v5 v6 v7 v8 : Option V), m' = ns.length - pl ∧ σ' = [some (.ref a), some (.ref x), some (.ref fo), some (.int (pl : Int)), v4, v5, v6, v7, v8] ∧ pl ≤ ns.length ∧ Same H H'' ∧
              H'' fo = some (.lst (out.map V.int)) ∧ WallAt CW CS (upd H fo (.lst (out.map V.int))) H'' x s ∧ WF s ∧ Ahead f (ns.drop pl) cs ∧ PySy76.answers ns = out ++ toldFrom s cs, rt := Q,
            bk := fun σ H => (tRet (tVar 2)) { nx := fun _ H' => Q .non H', rt := Q } σ H,
            ct := fun σ' H'' => ∃ m', m' < ns.length - pl ∧ ∃ (pl : Nat) (s : Sy76.St) (out : List Int) (f : Nat) (cs : List (List (List Int))) (v4 v5 v6 v7 v8 : Option V), m' = ns.length - pl ∧ σ' = [some (.ref a), some (.ref x), some (.ref fo), some (.int (pl : Int)), v4, v5, v6, v7, v8] ∧ pl ≤ ns.length ∧ Same H H'' ∧
              H'' fo = some (.lst (out.map V.int)) ∧ WallAt CW CS (upd H fo (.lst (out.map V.int))) H'' x s ∧ WF s ∧ Ahead f (ns.drop pl) cs ∧ PySy76.answers ns = out ++ toldFrom s cs }
          [some (.ref a), some (.ref x), some (.ref fo), some (.int (pl : Int)), some (.int (num xc)), some (.int (e : Int)), some (.ref na), some (.ref rb), v8] H5 := by
      intro H5 rb e t3 h3 he1 he2 he3
      have tt := (t1.trans t2).trans t3
      have hf5 := tt _ _ hf
      have sH0 : Same (upd H fo (.lst (out.map V.int))) H5 := fun b o hb => by
        by_cases c : b = fo
        · rw [c, upd_same] at hb
          rw [c, hf5]
          exact hb
        · rw [upd_ne c] at hb
          exact (s3.trans tt) _ _ hb
      refine ⟨_, rfl, _, rfl, _, rfl, _, rfl, upd H fo (.lst (out.map V.int)), x, na, rb, s, xc, rfl, sH0, hw.same tt, wf, SqL.of ((t2.trans t3) _ _ h1n), SqL.of h3, sh, fun H6 z s6 hw6 hz => ?_⟩
      rw [hans2] at hz
      have hf6 : H6 fo = some (.lst (out.map V.int)) := s6 _ _ upd_same
      have sH6 : Same H H6 := fun b o hb => s6 _ _ (by rw [upd_ne (ne_of_none hb nfo)]; exact hb)
      refine ⟨_, rfl, .inl ⟨rfl, _, SqL.of hf6⟩, _, rfl, z, _, rfl, .inl (SqL.of hz), line_of (by show 1 ≤ 16777216; decide), fun l1 hl1 => ?_⟩
      have u1 := same_one (o := .lst [V.int ((ans.map V.int).length : Nat)]) hl1
      refine ⟨_, rfl, l1, z, _, _, rfl, rfl, upd_same, u1 _ _ hz, ?_, fun l2 hl2 => ?_⟩
      · rw [List.length_map]
        exact line_of (by show 1 + ans.length ≤ 16777216; omega)
      have u2 := u1.trans (same_one (o := .lst ([V.int ((ans.map V.int).length : Nat)] ++ ans.map V.int)) hl2)
      have h7l : (upd (upd H6 l1 (.lst [V.int ((ans.map V.int).length : Nat)])) l2 (.lst ([V.int ((ans.map V.int).length : Nat)] ++ ans.map V.int))) l2 = some (.lst ([V.int ((ans.map V.int).length : Nat)] ++ ans.map V.int)) := upd_same
      generalize (upd (upd H6 l1 (.lst [V.int ((ans.map V.int).length : Nat)])) l2 (.lst ([V.int ((ans.map V.int).length : Nat)] ++ ans.map V.int))) = H7 at u2 h7l ⊢
      refine ⟨fo, l2, _, _, rfl, rfl, u2 _ _ hf6, h7l, ?_, ?_⟩
      · rw [List.length_append, List.length_map, List.length_map]
        exact line_of (by show out.length + (1 + ans.length) ≤ 16777216; omega)
      have eo : out.map V.int ++ ([V.int ((ans.map V.int).length : Nat)] ++ ans.map V.int) = (out ++ ((ans.length : Int) :: ans)).map V.int := by
        rw [List.map_append, List.map_cons, List.length_map]
        rfl
      rw [eo]
      refine ⟨_, rfl, ns.length - e, by omega, e, (step s xc).1, out ++ ((ans.length : Int) :: ans), f', cs', _, _, _, _, _, rfl, rfl, he1, same_put (sH6.trans u2) nfo, upd_same, ?_, step_wf wf sh, by rw [he3]; exact ah', ?_⟩
      · have hb : (upd H fo (.lst (out.map V.int))) fo = some (.lst (out.map V.int)) := upd_same
        refine WallAt.dom (fun b hb2 => ?_) ((hw6.same u2).put (o' := .lst ((out ++ ((ans.length : Int) :: ans)).map V.int)) hb)
        by_cases c : b = fo
        · rw [c, upd_same] at hb2
          cases hb2
        · rw [upd_ne c] at hb2 ⊢
          exact hb2
      · rw [al, List.append_assoc]
        rfl
    -- if call in LISTED
    refine ⟨_, rfl, aL, lisV, rfl, .inr (tL _), rfl, rfl, _, rfl, ?_⟩
    rw [if_neg Bool.false_ne_true, lisV_at]
    cases hls : listed xc with
    | false =>
      refine iteF ?_
      rw [hls, if_neg Bool.false_ne_true, List.nil_append] at e3
      have er := not_listed hls
      exact fin H4 ra (pl + 1 + kn) (Same.refl _) (by rw [er]; exact h2r) (by omega) (by omega) e3
    | true =>
      refine iteT ?_
      rw [hls, if_pos rfl] at e3
      rw [hls, if_pos rfl, List.length_append, List.length_cons, zs_len] at l1
      generalize hrl : (rowOf xc).length = rl at e3 l1
      have hlt2 : pl + 1 + kn < ns.length := by omega
      have g2 : atI (ns.map V.int) ((pl : Int) + 1 + (kn : Nat)) = some (V.int (rl : Nat)) := by
        refine at_of (j := pl + 1 + kn) (by omega) ?_
        have e8 : ns[pl + 1 + kn]? = some (rl : Int) := by
          have e7 : (ns.drop (pl + 1 + kn))[0]? = some (rl : Int) := by rw [e3]; rfl
          rw [List.getElem?_drop] at e7
          exact e7
        rw [List.getElem?_map, e8]
        rfl
      have ha4 := (t1.trans t2).seq ha3
      refine ⟨_, rfl, _, rfl, _, _, rfl, rfl, _, rfl, _, rfl, _, _, rfl, rfl, _, rfl, _, rfl, a, _, _, _, rfl, rfl, ha4, g2, _, _, rfl, rfl, _, rfl, a, _, rfl, ha4, fun rb hrb => ?_⟩
      have cut2 : cutV (ns.map V.int) (some ((pl : Int) + 1 + (kn : Nat) + 1)) (some ((pl : Int) + 1 + (kn : Nat) + 1 + (rl : Nat))) = nv (rowOf xc) := by
        rw [cut_is (a := pl + 1 + kn + 1) (b := pl + 1 + kn + 1 + rl) (by omega) (by omega) (by omega) (by rw [List.length_map]; omega), ← List.map_drop, ← List.map_take]
        have e9 : pl + 1 + kn + 1 + rl - (pl + 1 + kn + 1) = rl := by omega
        have e10 : ns.drop (pl + 1 + kn + 1) = zs (rowOf xc) ++ t := by
          rw [← List.drop_drop, e3]
          rfl
        rw [e9, e10, List.take_left' (by rw [zs_len, hrl]), zs_nv]
      have t3 : Same H4 (upd H4 rb (.lst (cutV (ns.map V.int) (some ((pl : Int) + 1 + (kn : Nat) + 1)) (some ((pl : Int) + 1 + (kn : Nat) + 1 + (rl : Nat)))))) := same_one hrb
      have h3 : (upd H4 rb (.lst (cutV (ns.map V.int) (some ((pl : Int) + 1 + (kn : Nat) + 1)) (some ((pl : Int) + 1 + (kn : Nat) + 1 + (rl : Nat)))))) rb = some (.lst (nv (rowOf xc))) := by rw [upd_same, cut2]
      generalize (upd H4 rb (.lst (cutV (ns.map V.int) (some ((pl : Int) + 1 + (kn : Nat) + 1)) (some ((pl : Int) + 1 + (kn : Nat) + 1 + (rl : Nat)))))) = H5 at t3 h3 ⊢
      refine ⟨_, rfl, _, _, rfl, rfl, _, rfl, _, rfl, a, _, _, _, rfl, rfl, t3.seq ha4, g2, _, _, rfl, rfl, ?_⟩
      refine fin H5 rb (pl + 1 + kn + 1 + rl) t3 h3 (by omega) (by omega) ?_
      have e11 : pl + 1 + kn + 1 + rl = pl + 1 + kn + (1 + rl) := by omega
      rw [e11, ← List.drop_drop, e3, ← List.drop_drop]
      show (zs (rowOf xc) ++ t).drop rl = t
      rw [List.drop_left' (by rw [zs_len, hrl])]
end
end SW

namespace SW
open PySem PySem.Spec PyProof.Rows L2
/-! ### the defs as they stand behind the top -/
structure At (K : PySem.W.Frag) (mg : Str → Option Value) (x : Str) (st : Stmt) (f : Addr) (fd : FuncData) (ps : List Str) : Prop where
  gm : mg x = some (.ref f)
  fn : Fun K x x st f fd
  bi : Binds K fd ps []
theorem at_mk {K : PySem.W.Frag} {h : Heap} {mg : Str → Option Value} (X : K.In h) (G : h.Ns mainGlobals mg) {x : Str} {st : Stmt} {f : Addr} {ps : List Str} {oc : Value} {od an : Option Addr} {osl : Array (Option Value)} {kV doc pm cdv ct : Value}
    (a : PySem.W.nsIn K mainGlobals x = some (some (.ref f))) (l : K.lookup f = some ⟨oc, od, .func (PySem.W.fnOf x x (defArgs st) (defBody st) (defScope st) .none kV doc pm an cdv ct), osl⟩)
    (c : PySem.W.codeIn K cdv x = true) (k : PySem.W.keepIn K (.ref f) = true)
    (b : ∀ (kV doc pm : Value) (an : Option Addr) (cdv ct : Value) (us : List Value), us.length = ps.length → bindArgs (PySem.W.fnOf x x (defArgs st) (defBody st) (defScope st) .none kV doc pm an cdv ct) ⟨us, []⟩ = pure (ps.zip us)) :
    ∃ (f : Addr) (fd : FuncData), At K mg x st f fd ps :=
  have F := fun_mk (st := st) l c k
  ⟨f, _, PySem.W.mg_of X G a, F, F.binds b⟩
theorem At.up {P : Program} {w : World} {K : PySem.W.Frag} {mg : Str → Option Value} {base : Heap} {CX : CXT} {k : Nat} {x : Str} {st : Stmt} {f : Addr} {fd : FuncData} {ps : List Str} {sp : Sp} (a : At K mg x st f fd ps) (h : FnOk P w K mg base CX k f fd ps sp) :
    Fn P w K mg base CX k x f fd ps sp := ⟨a.gm, a.fn.kp, a.bi, h⟩
theorem num_mk {K : PySem.W.Frag} {h : Heap} {mg : Str → Option Value} (X : K.In h) (G : h.Ns mainGlobals mg) {x : Str} {i : Int} {t : Tok} (a : PySem.W.nsIn K mainGlobals x = some (some (.int i t))) : Num mg x i := ⟨t, PySem.W.mg_of X G a⟩
theorem vals_of_ints' : ∀ {l : List Int} {us : List Value}, IntsAre us l → Vals (l.map fun (n : Int) => V.int n) us
  | _, _, .nil => .nil
  | _, _, .cons _ _ r => .cons ⟨_, rfl⟩ (vals_of_ints' r)
/-! ### from the defs to answers -/
theorem all_ok {P : Program} {w : World} {K : PySem.W.Frag} {mg : Str → Option Value} {base : Heap} {CS CR CW fSI fRI fWI : Addr} {fdSI fdRI fdWI : FuncData}
    {f0 : Addr} {fd0 : FuncData} {f1 : Addr} {fd1 : FuncData} {f2 : Addr} {fd2 : FuncData} {f3 : Addr} {fd3 : FuncData} {f4 : Addr} {fd4 : FuncData} {f5 : Addr} {fd5 : FuncData} {f6 : Addr} {fd6 : FuncData} {f7 : Addr} {fd7 : FuncData} {f8 : Addr} {fd8 : FuncData} {f9 : Addr} {fd9 : FuncData} {f10 : Addr} {fd10 : FuncData} {f11 : Addr} {fd11 : FuncData} {f12 : Addr} {fd12 : FuncData} {f13 : Addr} {fd13 : FuncData} {f14 : Addr} {fd14 : FuncData} {f15 : Addr} {fd15 : FuncData} {f16 : Addr} {fd16 : FuncData} {f17 : Addr} {fd17 : FuncData} {f18 : Addr} {fd18 : FuncData} {f19 : Addr} {fd19 : FuncData} {f20 : Addr} {fd20 : FuncData} {f21 : Addr} {fd21 : FuncData} {f22 : Addr} {fd22 : FuncData} {f23 : Addr} {fd23 : FuncData} {f24 : Addr} {fd24 : FuncData} {f25 : Addr} {fd25 : FuncData} {f26 : Addr} {fd26 : FuncData} {f27 : Addr} {fd27 : FuncData} {f28 : Addr} {fd28 : FuncData}
    (B : Blt mg) (S : SurfC K CS) (W : WallC K CW) (T : RefC K CR fRI) (te : PySem.W.exmOne K (.ref CR) (.ref CR) = some true)
    (gS : mg "Surface" = some (.ref CS)) (gR : mg "Refused" = some (.ref CR)) (gW : mg "Wall" = some (.ref CW)) (MS : Mk K CS fSI) (MW : Mk K CW fWI)
    (FSI : Fun K "__init__" "Surface.__init__" sSurfI fSI fdSI) (bSI : Binds K fdSI ["self", "many_rows", "many_columns"] []) (FRI : Fun K "__init__" "Refused.__init__" sRefI fRI fdRI) (bRI : Binds K fdRI ["self", "code"] []) (FWI : Fun K "__init__" "Wall.__init__" sWallI fWI fdWI) (bWI : Binds K fdWI ["self"] [])
    (N : Nums mg) (nBARE : Num mg "BARE" 0) (nMOST_COLOURS : Num mg "MOST_COLOURS" 5) (nMOST_SIDE : Num mg "MOST_SIDE" 5) (nMOST_STENCILS : Num mg "MOST_STENCILS" 5) (nOUT_OF_RANGE : Num mg "OUT_OF_RANGE" (-1)) (nNONE_SUCH : Num mg "NONE_SUCH" (-2)) (nTOO_MANY : Num mg "TOO_MANY" (-5)) (nNO_PLAN : Num mg "NO_PLAN" (-6))
    (TN : TupG K mg "NUMBERS" numV) (TL : TupG K mg "LISTED" lisV)
    (a0 : At K mg "sprayed" sSprayed f0 fd0 ["cells", "stencil", "colour"])
    (a1 : At K mg "otherwise" sOtherwise f1 fd1 ["cells", "wanted"])
    (a2 : At K mg "seen_colour" sSeen f2 fd2 ["surface", "stencil", "hidden"])
    (a3 : At K mg "plan_by" sPlanBy f3 fd3 ["surface", "order"])
    (a4 : At K mg "orders_of" sOrders f4 fd4 ["stencils", "many"])
    (a5 : At K mg "plans_with" sPlansWith f5 fd5 ["surface", "stencils", "many"])
    (a6 : At K mg "plans_by" sPlansBy f6 fd6 ["surface", "stencils"])
    (a7 : At K mg "all_stencils" sAllSt f7 fd7 ["surface"])
    (a8 : At K mg "plans_of" sPlansOf f8 fd8 ["surface"])
    (a9 : At K mg "is_needed" sIsNeeded f9 fd9 ["surface", "stencil"])
    (a10 : At K mg "needed_of" sNeededOf f10 fd10 ["surface"])
    (a11 : At K mg "need" sNeed f11 fd11 ["holds", "code"])
    (a12 : At K mg "with_length" sWithLen f12 fd12 ["numbers"])
    (a13 : At K mg "many_wrong" sManyWrong f13 fd13 ["surface"])
    (a14 : At K mg "begins" sBegins f14 fd14 ["wall", "many_rows", "many_columns"])
    (a15 : At K mg "stencil_put" sStencilPut f15 fd15 ["surface", "cells"])
    (a16 : At K mg "picture_set" sPictureSet f16 fd16 ["surface", "wanted"])
    (a17 : At K mg "is_colour" sIsColour f17 fd17 ["number"])
    (a18 : At K mg "spray_done" sSprayDone f18 fd18 ["surface", "stencil", "colour"])
    (a19 : At K mg "washed" sWashed f19 fd19 ["surface"])
    (a20 : At K mg "fewest_told" sFewestTold f20 fd20 ["surface"])
    (a21 : At K mg "plan_told" sPlanTold f21 fd21 ["surface", "number"])
    (a22 : At K mg "needed_told" sNeededTold f22 fd22 ["surface"])
    (a23 : At K mg "by_told" sByTold f23 fd23 ["surface", "numbers"])
    (a24 : At K mg "state_told" sStateTold f24 fd24 ["surface"])
    (a25 : At K mg "asked" sAsked f25 fd25 ["surface", "call", "numbers", "row"])
    (a26 : At K mg "answered" sAnswered f26 fd26 ["wall", "call", "numbers", "row"])
    (a27 : At K mg "outcome" sOutcome f27 fd27 ["wall", "call", "numbers", "row"])
    (a28 : At K mg "answers" sAnswers f28 fd28 ["calls"]) :
    FnOk P w K mg base CX0 15 f28 fd28 ["calls"] (spAns K) := by
  have gO : Fn P w K mg base CX0 1 "otherwise" f1 fd1 ["cells", "wanted"] (spOtherwise K) := a1.up (ok_otherwise a1.fn B)
  have gSp : Fn P w K mg base CX0 1 "sprayed" f0 fd0 ["cells", "stencil", "colour"] (spSprayed K) := a0.up (ok_sprayed a0.fn B)
  have gWL : Fn P w K mg base CX0 1 "with_length" f12 fd12 ["numbers"] spWithLen := a12.up (ok_with_length a12.fn B)
  have gIC : Fn P w K mg base CX0 1 "is_colour" f17 fd17 ["number"] spIsColour := a17.up (ok_is_colour a17.fn nMOST_COLOURS)
  have gMW : Fn P w K mg base CX0 2 "many_wrong" f13 fd13 ["surface"] (spManyWrong CS) := a13.up (ok_many_wrong a13.fn B S gO)
  have gAS : Fn P w K mg base CX0 1 "all_stencils" f7 fd7 ["surface"] (spAllSt CS) := a7.up (ok_all_stencils a7.fn B S)
  have gSe : Fn P w K mg base CX0 1 "seen_colour" f2 fd2 ["surface", "stencil", "hidden"] (spSeen K CS) := a2.up (ok_seen a2.fn B nBARE S)
  have gPB : Fn P w K mg base CX0 2 "plan_by" f3 fd3 ["surface", "order"] (spPlanBy K CS) := a3.up (ok_plan_by a3.fn B S gSe)
  have gOr : Fn P w K mg base CX0 6 "orders_of" f4 fd4 ["stencils", "many"] (spOrders K 5) := a4.up (ok_orders a4.fn a4.gm a4.bi 5)
  have gPW : Fn P w K mg base CX0 7 "plans_with" f5 fd5 ["surface", "stencils", "many"] (spPlansWith K CS) := a5.up (ok_plans_with a5.fn B gPB gOr)
  have gPy : Fn P w K mg base CX0 8 "plans_by" f6 fd6 ["surface", "stencils"] (spPlansBy K CS) := a6.up (ok_plans_by a6.fn B gPW)
  have gPO : Fn P w K mg base CX0 9 "plans_of" f8 fd8 ["surface"] (spPlansOf CS) := a8.up (ok_plans_of a8.fn gPy gAS)
  have gIN : Fn P w K mg base CX0 9 "is_needed" f9 fd9 ["surface", "stencil"] (spIsNeeded CS) := a9.up (ok_is_needed a9.fn gPy gAS)
  have gNO : Fn P w K mg base CX0 10 "needed_of" f10 fd10 ["surface"] (spNeededOf CS) := a10.up (ok_needed_of a10.fn gIN gAS)
  have gRI : FnOk P w K mg base CX0 1 fRI fdRI ["self", "code"] (spRefI CR) := ok_ref_init FRI T
  have gSI : FnOk P w K mg base CX0 1 fSI fdSI ["self", "many_rows", "many_columns"] (spSurfI CS) := ok_surf_init FSI nBARE S
  have gWI : FnOk P w K mg base CX0 3 fWI fdWI ["self"] (spWallI CW CS) := ok_wall_init FWI W gS MS bSI gSI
  have gN : Fn P w K mg base (L2.CX P w) 3 "need" f11 fd11 ["holds", "code"] (spNeed CR) := a11.up (ok_need a11.fn T gR bRI gRI)
  have gBe : Fn P w K mg base (L2.CX P w) 4 "begins" f14 fd14 ["wall", "many_rows", "many_columns"] (spBegins CW CS CR) := a14.up (ok_begins a14.fn B nMOST_SIDE nOUT_OF_RANGE S W gS MS bSI gSI gN)
  have gSt : Fn P w K mg base (L2.CX P w) 4 "stencil_put" f15 fd15 ["surface", "cells"] (spStencilPut K CS CR) := a15.up (ok_stencil_put a15.fn B nMOST_STENCILS nOUT_OF_RANGE nTOO_MANY S gN)
  have gPS : Fn P w K mg base (L2.CX P w) 4 "picture_set" f16 fd16 ["surface", "wanted"] (spPictureSet (K := K) CS CR) := a16.up (ok_picture_set a16.fn B nMOST_COLOURS nOUT_OF_RANGE S gN gMW)
  have gSD : Fn P w K mg base (L2.CX P w) 4 "spray_done" f18 fd18 ["surface", "stencil", "colour"] (spSprayDone CS CR) := a18.up (ok_spray_done a18.fn B nNONE_SUCH nOUT_OF_RANGE S gN gIC gSp gMW)
  have gWa : Fn P w K mg base CX0 3 "washed" f19 fd19 ["surface"] (spWashed CS) := a19.up (ok_washed a19.fn B nBARE S gMW)
  have gFT : Fn P w K mg base (L2.CX P w) 10 "fewest_told" f20 fd20 ["surface"] (spTold CS CR .fewest) := a20.up (ok_fewest_told a20.fn B nNO_PLAN gN gPO)
  have gPT : Fn P w K mg base (L2.CX P w) 10 "plan_told" f21 fd21 ["surface", "number"] (spPlanTold CS CR) := a21.up (ok_plan_told a21.fn B nNONE_SUCH gN gPO gWL)
  have gNT : Fn P w K mg base (L2.CX P w) 11 "needed_told" f22 fd22 ["surface"] (spTold CS CR .needed) := a22.up (ok_needed_told a22.fn B nNO_PLAN gN gPO gNO gWL)
  have gBT : Fn P w K mg base (L2.CX P w) 4 "by_told" f23 fd23 ["surface", "numbers"] (spByTold K CS CR) := a23.up (ok_by_told a23.fn B nOUT_OF_RANGE S gN gIC gSp gO gWL)
  have gSo : Fn P w K mg base CX0 2 "state_told" f24 fd24 ["surface"] (spTold CS CR .state) := a24.up (ok_state_told a24.fn B S gWL)
  have gAk : Fn P w K mg base (L2.CX P w) 12 "asked" f25 fd25 ["surface", "call", "numbers", "row"] (spAsked K CS CR) := a25.up (ok_asked a25.fn B S N gO gWL gFT gPT gNT gBT gSo)
  have gAn : Fn P w K mg base (L2.CX P w) 13 "answered" f26 fd26 ["wall", "call", "numbers", "row"] (spAnswered K CW CS CR) := a26.up (ok_answered a26.fn W N gBe gSt gPS gSD gWa gAk)
  have gOu : Fn P w K mg base CX0 14 "outcome" f27 fd27 ["wall", "call", "numbers", "row"] (spOutcome K CW CS) := a27.up (ok_outcome a27.fn T gR te gAn)
  exact ok_answers a28.fn B TN TL gW MW bWI gWI gOu
/-- an error of the class at S is what the clause names -/
theorem exm_me {K : PySem.W.Frag} {S : Addr} (h1 : PySem.W.subIn K (.ref S) (.type "BaseException") = some true) (h2 : PySem.W.isClsIn K S = true) (h3 : PySem.W.typeIn K (.ref S) = some (.type "type")) (h4 : PySem.W.subIn K (.ref S) (.ref S) = some true) :
    PySem.W.exmOne K (.ref S) (.ref S) = some true := by
  have e1 : (PySem.W.subIn K (.ref S) (.type "BaseException") == some true) = true := by rw [h1] <;> rfl
  have e2 : ((PySem.W.clsIn K S).isSome && PySem.W.typeIn K (.ref S) == some (.type "type")) = true := by
    have z : (PySem.W.clsIn K S).isSome = true := h2
    rw [z, h3] <;> rfl
  show (if (PySem.W.subIn K (.ref S) (.type "BaseException") == some true) = true then (if ((PySem.W.clsIn K S).isSome && PySem.W.typeIn K (.ref S) == some (.type "type")) = true then PySem.W.subIn K (.ref S) (.ref S) else none) else none) = some true
  rw [if_pos e1, if_pos e2]
  exact h4
theorem tup_mk {K : PySem.W.Frag} {h : Heap} {mg : Str → Option Value} (X : K.In h) (G : h.Ns mainGlobals mg) {x : Str} {a : Addr} {o : Obj} {its : Array Value} {n : Nat} {l : List Int} (e : PySem.W.nsIn K mainGlobals x = some (some (.ref a))) (lk : K.lookup a = some o) (hc : o.cls = .type "tuple") (hd : o.data = .seq its n) (hi : IntsAre its.toList l) (hz : l.length ≤ 100) :
    TupG K mg x (l.map fun (n : Int) => V.int n) := by
  have e2 := IntsAre.length hi
  rw [Array.length_toList] at e2
  exact ⟨a, PySem.W.mg_of X G e, fun H => .inr ⟨o, its, n, lk, hc, hd, line_of (by omega), vals_of_ints' hi⟩⟩

theorem head_mk {P : Program} {w : World} {K : PySem.W.Frag} {h : Heap} {mg : Str → Option Value} {fa CS CW CR fSI fWI fRI : Addr} (X : K.In h) (G : h.Ns mainGlobals mg) (hfa : mg "answers" = some (.ref fa))
    {f0 f1 f2 f3 f4 f5 f6 f7 f8 f9 f10 f11 f12 f13 f14 f15 f16 f17 f18 f19 f20 f21 f22 f23 f24 f25 f26 f27 f28 : Addr}
    {oc0 kV0 dc0 pm0 cd0 ct0 : Value} {od0 an0 : Option Addr} {sl0 : Array (Option Value)}
    {oc1 kV1 dc1 pm1 cd1 ct1 : Value} {od1 an1 : Option Addr} {sl1 : Array (Option Value)}
    {oc2 kV2 dc2 pm2 cd2 ct2 : Value} {od2 an2 : Option Addr} {sl2 : Array (Option Value)}
    {oc3 kV3 dc3 pm3 cd3 ct3 : Value} {od3 an3 : Option Addr} {sl3 : Array (Option Value)}
    {oc4 kV4 dc4 pm4 cd4 ct4 : Value} {od4 an4 : Option Addr} {sl4 : Array (Option Value)}
    {oc5 kV5 dc5 pm5 cd5 ct5 : Value} {od5 an5 : Option Addr} {sl5 : Array (Option Value)}
    {oc6 kV6 dc6 pm6 cd6 ct6 : Value} {od6 an6 : Option Addr} {sl6 : Array (Option Value)}
    {oc7 kV7 dc7 pm7 cd7 ct7 : Value} {od7 an7 : Option Addr} {sl7 : Array (Option Value)}
    {oc8 kV8 dc8 pm8 cd8 ct8 : Value} {od8 an8 : Option Addr} {sl8 : Array (Option Value)}
    {oc9 kV9 dc9 pm9 cd9 ct9 : Value} {od9 an9 : Option Addr} {sl9 : Array (Option Value)}
    {oc10 kV10 dc10 pm10 cd10 ct10 : Value} {od10 an10 : Option Addr} {sl10 : Array (Option Value)}
    {oc11 kV11 dc11 pm11 cd11 ct11 : Value} {od11 an11 : Option Addr} {sl11 : Array (Option Value)}
    {oc12 kV12 dc12 pm12 cd12 ct12 : Value} {od12 an12 : Option Addr} {sl12 : Array (Option Value)}
    {oc13 kV13 dc13 pm13 cd13 ct13 : Value} {od13 an13 : Option Addr} {sl13 : Array (Option Value)}
    {oc14 kV14 dc14 pm14 cd14 ct14 : Value} {od14 an14 : Option Addr} {sl14 : Array (Option Value)}
    {oc15 kV15 dc15 pm15 cd15 ct15 : Value} {od15 an15 : Option Addr} {sl15 : Array (Option Value)}
    {oc16 kV16 dc16 pm16 cd16 ct16 : Value} {od16 an16 : Option Addr} {sl16 : Array (Option Value)}
    {oc17 kV17 dc17 pm17 cd17 ct17 : Value} {od17 an17 : Option Addr} {sl17 : Array (Option Value)}
    {oc18 kV18 dc18 pm18 cd18 ct18 : Value} {od18 an18 : Option Addr} {sl18 : Array (Option Value)}
    {oc19 kV19 dc19 pm19 cd19 ct19 : Value} {od19 an19 : Option Addr} {sl19 : Array (Option Value)}
    {oc20 kV20 dc20 pm20 cd20 ct20 : Value} {od20 an20 : Option Addr} {sl20 : Array (Option Value)}
    {oc21 kV21 dc21 pm21 cd21 ct21 : Value} {od21 an21 : Option Addr} {sl21 : Array (Option Value)}
    {oc22 kV22 dc22 pm22 cd22 ct22 : Value} {od22 an22 : Option Addr} {sl22 : Array (Option Value)}
    {oc23 kV23 dc23 pm23 cd23 ct23 : Value} {od23 an23 : Option Addr} {sl23 : Array (Option Value)}
    {oc24 kV24 dc24 pm24 cd24 ct24 : Value} {od24 an24 : Option Addr} {sl24 : Array (Option Value)}
    {oc25 kV25 dc25 pm25 cd25 ct25 : Value} {od25 an25 : Option Addr} {sl25 : Array (Option Value)}
    {oc26 kV26 dc26 pm26 cd26 ct26 : Value} {od26 an26 : Option Addr} {sl26 : Array (Option Value)}
    {oc27 kV27 dc27 pm27 cd27 ct27 : Value} {od27 an27 : Option Addr} {sl27 : Array (Option Value)}
    {oc28 kV28 dc28 pm28 cd28 ct28 : Value} {od28 an28 : Option Addr} {sl28 : Array (Option Value)}
    {ocCS kVCS dcCS pmCS cdCS ctCS : Value} {odCS anCS : Option Addr} {slCS : Array (Option Value)}
    {ocCW kVCW dcCW pmCW cdCW ctCW : Value} {odCW anCW : Option Addr} {slCW : Array (Option Value)}
    {nm qq : Str} {NN : Addr} {bs : List Value} {sn : List Str} {sub : List Value} {ab : Bool} {col : Option Bool} {dd : Option Addr} {m0 m1 m2 m3 m5 : Option Value}
    {ocCR kVCR dcCR pmCR cdCR ctCR : Value} {odCR anCR : Option Addr} {slCR : Array (Option Value)}
    {t_BARE : Tok}
    {t_MOST_COLOURS : Tok}
    {t_MOST_SIDE : Tok}
    {t_MOST_STENCILS : Tok}
    {t_OUT_OF_RANGE : Tok}
    {t_NONE_SUCH : Tok}
    {t_TOO_MANY : Tok}
    {t_NO_PLAN : Tok}
    {t_BEGINS : Tok}
    {t_STENCIL : Tok}
    {t_PICTURE : Tok}
    {t_SPRAY : Tok}
    {t_WASH : Tok}
    {t_WRONG : Tok}
    {t_FEWEST : Tok}
    {t_PLAN : Tok}
    {t_NEEDED : Tok}
    {t_BY : Tok}
    {t_WALL : Tok}
    {d_NUMBERS : Addr} {od_NUMBERS : Option Addr} {sl_NUMBERS : Array (Option Value)} {z_NUMBERS : Nat} {t_NUMBERS0 t_NUMBERS1 t_NUMBERS2 t_NUMBERS3 t_NUMBERS4 t_NUMBERS5 t_NUMBERS6 t_NUMBERS7 t_NUMBERS8 t_NUMBERS9 t_NUMBERS10 t_NUMBERS11 : Tok}
    {d_LISTED : Addr} {od_LISTED : Option Addr} {sl_LISTED : Array (Option Value)} {z_LISTED : Nat} {t_LISTED0 t_LISTED1 t_LISTED2 : Tok}
    (a0 : PySem.W.nsIn K mainGlobals "sprayed" = some (some (.ref f0)))
    (l0 : K.lookup f0 = some ⟨oc0, od0, .func (PySem.W.fnOf "sprayed" "sprayed" (defArgs sSprayed) (defBody sSprayed) (defScope sSprayed) .none kV0 dc0 pm0 an0 cd0 ct0), sl0⟩)
    (c0 : PySem.W.codeIn K cd0 "sprayed" = true)
    (k0 : PySem.W.keepIn K (.ref f0) = true)
    (a1 : PySem.W.nsIn K mainGlobals "otherwise" = some (some (.ref f1)))
    (l1 : K.lookup f1 = some ⟨oc1, od1, .func (PySem.W.fnOf "otherwise" "otherwise" (defArgs sOtherwise) (defBody sOtherwise) (defScope sOtherwise) .none kV1 dc1 pm1 an1 cd1 ct1), sl1⟩)
    (c1 : PySem.W.codeIn K cd1 "otherwise" = true)
    (k1 : PySem.W.keepIn K (.ref f1) = true)
    (a2 : PySem.W.nsIn K mainGlobals "seen_colour" = some (some (.ref f2)))
    (l2 : K.lookup f2 = some ⟨oc2, od2, .func (PySem.W.fnOf "seen_colour" "seen_colour" (defArgs sSeen) (defBody sSeen) (defScope sSeen) .none kV2 dc2 pm2 an2 cd2 ct2), sl2⟩)
    (c2 : PySem.W.codeIn K cd2 "seen_colour" = true)
    (k2 : PySem.W.keepIn K (.ref f2) = true)
    (a3 : PySem.W.nsIn K mainGlobals "plan_by" = some (some (.ref f3)))
    (l3 : K.lookup f3 = some ⟨oc3, od3, .func (PySem.W.fnOf "plan_by" "plan_by" (defArgs sPlanBy) (defBody sPlanBy) (defScope sPlanBy) .none kV3 dc3 pm3 an3 cd3 ct3), sl3⟩)
    (c3 : PySem.W.codeIn K cd3 "plan_by" = true)
    (k3 : PySem.W.keepIn K (.ref f3) = true)
    (a4 : PySem.W.nsIn K mainGlobals "orders_of" = some (some (.ref f4)))
    (l4 : K.lookup f4 = some ⟨oc4, od4, .func (PySem.W.fnOf "orders_of" "orders_of" (defArgs sOrders) (defBody sOrders) (defScope sOrders) .none kV4 dc4 pm4 an4 cd4 ct4), sl4⟩)
    (c4 : PySem.W.codeIn K cd4 "orders_of" = true)
    (k4 : PySem.W.keepIn K (.ref f4) = true)
    (a5 : PySem.W.nsIn K mainGlobals "plans_with" = some (some (.ref f5)))
    (l5 : K.lookup f5 = some ⟨oc5, od5, .func (PySem.W.fnOf "plans_with" "plans_with" (defArgs sPlansWith) (defBody sPlansWith) (defScope sPlansWith) .none kV5 dc5 pm5 an5 cd5 ct5), sl5⟩)
    (c5 : PySem.W.codeIn K cd5 "plans_with" = true)
    (k5 : PySem.W.keepIn K (.ref f5) = true)
    (a6 : PySem.W.nsIn K mainGlobals "plans_by" = some (some (.ref f6)))
    (l6 : K.lookup f6 = some ⟨oc6, od6, .func (PySem.W.fnOf "plans_by" "plans_by" (defArgs sPlansBy) (defBody sPlansBy) (defScope sPlansBy) .none kV6 dc6 pm6 an6 cd6 ct6), sl6⟩)
    (c6 : PySem.W.codeIn K cd6 "plans_by" = true)
    (k6 : PySem.W.keepIn K (.ref f6) = true)
    (a7 : PySem.W.nsIn K mainGlobals "all_stencils" = some (some (.ref f7)))
    (l7 : K.lookup f7 = some ⟨oc7, od7, .func (PySem.W.fnOf "all_stencils" "all_stencils" (defArgs sAllSt) (defBody sAllSt) (defScope sAllSt) .none kV7 dc7 pm7 an7 cd7 ct7), sl7⟩)
    (c7 : PySem.W.codeIn K cd7 "all_stencils" = true)
    (k7 : PySem.W.keepIn K (.ref f7) = true)
    (a8 : PySem.W.nsIn K mainGlobals "plans_of" = some (some (.ref f8)))
    (l8 : K.lookup f8 = some ⟨oc8, od8, .func (PySem.W.fnOf "plans_of" "plans_of" (defArgs sPlansOf) (defBody sPlansOf) (defScope sPlansOf) .none kV8 dc8 pm8 an8 cd8 ct8), sl8⟩)
    (c8 : PySem.W.codeIn K cd8 "plans_of" = true)
    (k8 : PySem.W.keepIn K (.ref f8) = true)
    (a9 : PySem.W.nsIn K mainGlobals "is_needed" = some (some (.ref f9)))
    (l9 : K.lookup f9 = some ⟨oc9, od9, .func (PySem.W.fnOf "is_needed" "is_needed" (defArgs sIsNeeded) (defBody sIsNeeded) (defScope sIsNeeded) .none kV9 dc9 pm9 an9 cd9 ct9), sl9⟩)
    (c9 : PySem.W.codeIn K cd9 "is_needed" = true)
    (k9 : PySem.W.keepIn K (.ref f9) = true)
    (a10 : PySem.W.nsIn K mainGlobals "needed_of" = some (some (.ref f10)))
    (l10 : K.lookup f10 = some ⟨oc10, od10, .func (PySem.W.fnOf "needed_of" "needed_of" (defArgs sNeededOf) (defBody sNeededOf) (defScope sNeededOf) .none kV10 dc10 pm10 an10 cd10 ct10), sl10⟩)
    (c10 : PySem.W.codeIn K cd10 "needed_of" = true)
    (k10 : PySem.W.keepIn K (.ref f10) = true)
    (a11 : PySem.W.nsIn K mainGlobals "need" = some (some (.ref f11)))
    (l11 : K.lookup f11 = some ⟨oc11, od11, .func (PySem.W.fnOf "need" "need" (defArgs sNeed) (defBody sNeed) (defScope sNeed) .none kV11 dc11 pm11 an11 cd11 ct11), sl11⟩)
    (c11 : PySem.W.codeIn K cd11 "need" = true)
    (k11 : PySem.W.keepIn K (.ref f11) = true)
    (a12 : PySem.W.nsIn K mainGlobals "with_length" = some (some (.ref f12)))
    (l12 : K.lookup f12 = some ⟨oc12, od12, .func (PySem.W.fnOf "with_length" "with_length" (defArgs sWithLen) (defBody sWithLen) (defScope sWithLen) .none kV12 dc12 pm12 an12 cd12 ct12), sl12⟩)
    (c12 : PySem.W.codeIn K cd12 "with_length" = true)
    (k12 : PySem.W.keepIn K (.ref f12) = true)
    (a13 : PySem.W.nsIn K mainGlobals "many_wrong" = some (some (.ref f13)))
    (l13 : K.lookup f13 = some ⟨oc13, od13, .func (PySem.W.fnOf "many_wrong" "many_wrong" (defArgs sManyWrong) (defBody sManyWrong) (defScope sManyWrong) .none kV13 dc13 pm13 an13 cd13 ct13), sl13⟩)
    (c13 : PySem.W.codeIn K cd13 "many_wrong" = true)
    (k13 : PySem.W.keepIn K (.ref f13) = true)
    (a14 : PySem.W.nsIn K mainGlobals "begins" = some (some (.ref f14)))
    (l14 : K.lookup f14 = some ⟨oc14, od14, .func (PySem.W.fnOf "begins" "begins" (defArgs sBegins) (defBody sBegins) (defScope sBegins) .none kV14 dc14 pm14 an14 cd14 ct14), sl14⟩)
    (c14 : PySem.W.codeIn K cd14 "begins" = true)
    (k14 : PySem.W.keepIn K (.ref f14) = true)
    (a15 : PySem.W.nsIn K mainGlobals "stencil_put" = some (some (.ref f15)))
    (l15 : K.lookup f15 = some ⟨oc15, od15, .func (PySem.W.fnOf "stencil_put" "stencil_put" (defArgs sStencilPut) (defBody sStencilPut) (defScope sStencilPut) .none kV15 dc15 pm15 an15 cd15 ct15), sl15⟩)
    (c15 : PySem.W.codeIn K cd15 "stencil_put" = true)
    (k15 : PySem.W.keepIn K (.ref f15) = true)
    (a16 : PySem.W.nsIn K mainGlobals "picture_set" = some (some (.ref f16)))
    (l16 : K.lookup f16 = some ⟨oc16, od16, .func (PySem.W.fnOf "picture_set" "picture_set" (defArgs sPictureSet) (defBody sPictureSet) (defScope sPictureSet) .none kV16 dc16 pm16 an16 cd16 ct16), sl16⟩)
    (c16 : PySem.W.codeIn K cd16 "picture_set" = true)
    (k16 : PySem.W.keepIn K (.ref f16) = true)
    (a17 : PySem.W.nsIn K mainGlobals "is_colour" = some (some (.ref f17)))
    (l17 : K.lookup f17 = some ⟨oc17, od17, .func (PySem.W.fnOf "is_colour" "is_colour" (defArgs sIsColour) (defBody sIsColour) (defScope sIsColour) .none kV17 dc17 pm17 an17 cd17 ct17), sl17⟩)
    (c17 : PySem.W.codeIn K cd17 "is_colour" = true)
    (k17 : PySem.W.keepIn K (.ref f17) = true)
    (a18 : PySem.W.nsIn K mainGlobals "spray_done" = some (some (.ref f18)))
    (l18 : K.lookup f18 = some ⟨oc18, od18, .func (PySem.W.fnOf "spray_done" "spray_done" (defArgs sSprayDone) (defBody sSprayDone) (defScope sSprayDone) .none kV18 dc18 pm18 an18 cd18 ct18), sl18⟩)
    (c18 : PySem.W.codeIn K cd18 "spray_done" = true)
    (k18 : PySem.W.keepIn K (.ref f18) = true)
    (a19 : PySem.W.nsIn K mainGlobals "washed" = some (some (.ref f19)))
    (l19 : K.lookup f19 = some ⟨oc19, od19, .func (PySem.W.fnOf "washed" "washed" (defArgs sWashed) (defBody sWashed) (defScope sWashed) .none kV19 dc19 pm19 an19 cd19 ct19), sl19⟩)
    (c19 : PySem.W.codeIn K cd19 "washed" = true)
    (k19 : PySem.W.keepIn K (.ref f19) = true)
    (a20 : PySem.W.nsIn K mainGlobals "fewest_told" = some (some (.ref f20)))
    (l20 : K.lookup f20 = some ⟨oc20, od20, .func (PySem.W.fnOf "fewest_told" "fewest_told" (defArgs sFewestTold) (defBody sFewestTold) (defScope sFewestTold) .none kV20 dc20 pm20 an20 cd20 ct20), sl20⟩)
    (c20 : PySem.W.codeIn K cd20 "fewest_told" = true)
    (k20 : PySem.W.keepIn K (.ref f20) = true)
    (a21 : PySem.W.nsIn K mainGlobals "plan_told" = some (some (.ref f21)))
    (l21 : K.lookup f21 = some ⟨oc21, od21, .func (PySem.W.fnOf "plan_told" "plan_told" (defArgs sPlanTold) (defBody sPlanTold) (defScope sPlanTold) .none kV21 dc21 pm21 an21 cd21 ct21), sl21⟩)
    (c21 : PySem.W.codeIn K cd21 "plan_told" = true)
    (k21 : PySem.W.keepIn K (.ref f21) = true)
    (a22 : PySem.W.nsIn K mainGlobals "needed_told" = some (some (.ref f22)))
    (l22 : K.lookup f22 = some ⟨oc22, od22, .func (PySem.W.fnOf "needed_told" "needed_told" (defArgs sNeededTold) (defBody sNeededTold) (defScope sNeededTold) .none kV22 dc22 pm22 an22 cd22 ct22), sl22⟩)
    (c22 : PySem.W.codeIn K cd22 "needed_told" = true)
    (k22 : PySem.W.keepIn K (.ref f22) = true)
    (a23 : PySem.W.nsIn K mainGlobals "by_told" = some (some (.ref f23)))
    (l23 : K.lookup f23 = some ⟨oc23, od23, .func (PySem.W.fnOf "by_told" "by_told" (defArgs sByTold) (defBody sByTold) (defScope sByTold) .none kV23 dc23 pm23 an23 cd23 ct23), sl23⟩)
    (c23 : PySem.W.codeIn K cd23 "by_told" = true)
    (k23 : PySem.W.keepIn K (.ref f23) = true)
    (a24 : PySem.W.nsIn K mainGlobals "state_told" = some (some (.ref f24)))
    (l24 : K.lookup f24 = some ⟨oc24, od24, .func (PySem.W.fnOf "state_told" "state_told" (defArgs sStateTold) (defBody sStateTold) (defScope sStateTold) .none kV24 dc24 pm24 an24 cd24 ct24), sl24⟩)
    (c24 : PySem.W.codeIn K cd24 "state_told" = true)
    (k24 : PySem.W.keepIn K (.ref f24) = true)
    (a25 : PySem.W.nsIn K mainGlobals "asked" = some (some (.ref f25)))
    (l25 : K.lookup f25 = some ⟨oc25, od25, .func (PySem.W.fnOf "asked" "asked" (defArgs sAsked) (defBody sAsked) (defScope sAsked) .none kV25 dc25 pm25 an25 cd25 ct25), sl25⟩)
    (c25 : PySem.W.codeIn K cd25 "asked" = true)
    (k25 : PySem.W.keepIn K (.ref f25) = true)
    (a26 : PySem.W.nsIn K mainGlobals "answered" = some (some (.ref f26)))
    (l26 : K.lookup f26 = some ⟨oc26, od26, .func (PySem.W.fnOf "answered" "answered" (defArgs sAnswered) (defBody sAnswered) (defScope sAnswered) .none kV26 dc26 pm26 an26 cd26 ct26), sl26⟩)
    (c26 : PySem.W.codeIn K cd26 "answered" = true)
    (k26 : PySem.W.keepIn K (.ref f26) = true)
    (a27 : PySem.W.nsIn K mainGlobals "outcome" = some (some (.ref f27)))
    (l27 : K.lookup f27 = some ⟨oc27, od27, .func (PySem.W.fnOf "outcome" "outcome" (defArgs sOutcome) (defBody sOutcome) (defScope sOutcome) .none kV27 dc27 pm27 an27 cd27 ct27), sl27⟩)
    (c27 : PySem.W.codeIn K cd27 "outcome" = true)
    (k27 : PySem.W.keepIn K (.ref f27) = true)
    (a28 : PySem.W.nsIn K mainGlobals "answers" = some (some (.ref f28)))
    (l28 : K.lookup f28 = some ⟨oc28, od28, .func (PySem.W.fnOf "answers" "answers" (defArgs sAnswers) (defBody sAnswers) (defScope sAnswers) .none kV28 dc28 pm28 an28 cd28 ct28), sl28⟩)
    (c28 : PySem.W.codeIn K cd28 "answers" = true)
    (k28 : PySem.W.keepIn K (.ref f28) = true)
    (aCS : PySem.W.nsIn K mainGlobals "Surface" = some (some (.ref CS)))
    (iCS : PySem.W.findIn K (.ref CS) "__init__" = some (some (.ref fSI)))
    (jCS : PySem.W.isFn K (.ref fSI) = true)
    (lCS : K.lookup fSI = some ⟨ocCS, odCS, .func (PySem.W.fnOf "__init__" "Surface.__init__" (defArgs sSurfI) (defBody sSurfI) (defScope sSurfI) .none kVCS dcCS pmCS anCS cdCS ctCS), slCS⟩)
    (cCS : PySem.W.codeIn K cdCS "Surface.__init__" = true)
    (kCS : PySem.W.keepIn K (.ref fSI) = true)
    (gCS : PySem.W.plainGet K CS Str.empty = true)
    (hCS : PySem.W.hasDictIn K CS = true)
    (oCS : PySem.W.plainOver K CS = true)
    (sCS : PySem.W.findIn K (.ref CS) "__setattr__" = some (some (.builtin "object.__setattr__")))
    (mCS : PySem.W.makesIn K CS = true)
    (pCS : PySem.W.keepIn K (.ref CS) = true)
    (nCS0 : PySem.W.findIn K (.ref CS) "many_rows" = some none)
    (nCS1 : PySem.W.findIn K (.ref CS) "many_columns" = some none)
    (nCS2 : PySem.W.findIn K (.ref CS) "cells" = some none)
    (nCS3 : PySem.W.findIn K (.ref CS) "wanted" = some none)
    (nCS4 : PySem.W.findIn K (.ref CS) "stencils" = some none)
    (nCS5 : PySem.W.findIn K (.ref CS) "sprays" = some none)
    (aCW : PySem.W.nsIn K mainGlobals "Wall" = some (some (.ref CW)))
    (iCW : PySem.W.findIn K (.ref CW) "__init__" = some (some (.ref fWI)))
    (jCW : PySem.W.isFn K (.ref fWI) = true)
    (lCW : K.lookup fWI = some ⟨ocCW, odCW, .func (PySem.W.fnOf "__init__" "Wall.__init__" (defArgs sWallI) (defBody sWallI) (defScope sWallI) .none kVCW dcCW pmCW anCW cdCW ctCW), slCW⟩)
    (cCW : PySem.W.codeIn K cdCW "Wall.__init__" = true)
    (kCW : PySem.W.keepIn K (.ref fWI) = true)
    (gCW : PySem.W.plainGet K CW Str.empty = true)
    (hCW : PySem.W.hasDictIn K CW = true)
    (oCW : PySem.W.plainOver K CW = true)
    (sCW : PySem.W.findIn K (.ref CW) "__setattr__" = some (some (.builtin "object.__setattr__")))
    (mCW : PySem.W.makesIn K CW = true)
    (pCW : PySem.W.keepIn K (.ref CW) = true)
    (nCW0 : PySem.W.findIn K (.ref CW) "surface" = some none)
    (aCR : PySem.W.nsIn K mainGlobals "Refused" = some (some (.ref CR)))
    (xCR : K.lookup CR = some (excClassObj nm qq CR NN bs [.type "ValueError", .type "Exception", .type "BaseException", .type "object"] true sn sub ab col dd m0 m1 m2 m3 m5 "ValueError.__new__"))
    (sCR : PySem.W.findIn K (.ref CR) "__setattr__" = some (some (.builtin "object.__setattr__")))
    (gaCR : PySem.W.findIn K (.ref CR) "__getattribute__" = some (some (.builtin "BaseException.__getattribute__")))
    (ggCR : PySem.W.findIn K (.ref CR) "__getattr__" = some none)
    (nCR : PySem.W.findIn K (.ref CR) "code" = some none)
    (iCR : PySem.W.findIn K (.ref CR) "__init__" = some (some (.ref fRI)))
    (tCR : PySem.W.typeIn K (.ref fRI) = some (.type "function"))
    (lCR : K.lookup fRI = some ⟨ocCR, odCR, .func (PySem.W.fnOf "__init__" "Refused.__init__" (defArgs sRefI) (defBody sRefI) (defScope sRefI) .none kVCR dcCR pmCR anCR cdCR ctCR), slCR⟩)
    (cCR : PySem.W.codeIn K cdCR "Refused.__init__" = true)
    (kCR : PySem.W.keepIn K (.ref fRI) = true)
    (pCR : PySem.W.keepIn K (.ref CR) = true)
    (eCR : PySem.W.subIn K (.ref CR) (.type "BaseException") = some true)
    (yCR : PySem.W.typeIn K (.ref CR) = some (.type "type"))
    (hCR : PySem.W.hasDictIn K CR = true)
    (zCR : PySem.W.isClsIn K CR = true)
    (uCR : PySem.W.subIn K (.ref CR) (.ref CR) = some true)
    (b_len : PySem.W.nsIn K mainGlobals "len" = some none)
    (b_range : PySem.W.nsIn K mainGlobals "range" = some none)
    (b_any : PySem.W.nsIn K mainGlobals "any" = some none)
    (b_all : PySem.W.nsIn K mainGlobals "all" = some none)
    (b_sorted : PySem.W.nsIn K mainGlobals "sorted" = some none)
    (b_set : PySem.W.nsIn K mainGlobals "set" = some none)
    (b_list : PySem.W.nsIn K mainGlobals "list" = some none)
    (v_BARE : PySem.W.nsIn K mainGlobals "BARE" = some (some (.int 0 t_BARE)))
    (v_MOST_COLOURS : PySem.W.nsIn K mainGlobals "MOST_COLOURS" = some (some (.int 5 t_MOST_COLOURS)))
    (v_MOST_SIDE : PySem.W.nsIn K mainGlobals "MOST_SIDE" = some (some (.int 5 t_MOST_SIDE)))
    (v_MOST_STENCILS : PySem.W.nsIn K mainGlobals "MOST_STENCILS" = some (some (.int 5 t_MOST_STENCILS)))
    (v_OUT_OF_RANGE : PySem.W.nsIn K mainGlobals "OUT_OF_RANGE" = some (some (.int (-1) t_OUT_OF_RANGE)))
    (v_NONE_SUCH : PySem.W.nsIn K mainGlobals "NONE_SUCH" = some (some (.int (-2) t_NONE_SUCH)))
    (v_TOO_MANY : PySem.W.nsIn K mainGlobals "TOO_MANY" = some (some (.int (-5) t_TOO_MANY)))
    (v_NO_PLAN : PySem.W.nsIn K mainGlobals "NO_PLAN" = some (some (.int (-6) t_NO_PLAN)))
    (v_BEGINS : PySem.W.nsIn K mainGlobals "BEGINS" = some (some (.int 0 t_BEGINS)))
    (v_STENCIL : PySem.W.nsIn K mainGlobals "STENCIL" = some (some (.int 1 t_STENCIL)))
    (v_PICTURE : PySem.W.nsIn K mainGlobals "PICTURE" = some (some (.int 2 t_PICTURE)))
    (v_SPRAY : PySem.W.nsIn K mainGlobals "SPRAY" = some (some (.int 3 t_SPRAY)))
    (v_WASH : PySem.W.nsIn K mainGlobals "WASH" = some (some (.int 4 t_WASH)))
    (v_WRONG : PySem.W.nsIn K mainGlobals "WRONG" = some (some (.int 5 t_WRONG)))
    (v_FEWEST : PySem.W.nsIn K mainGlobals "FEWEST" = some (some (.int 6 t_FEWEST)))
    (v_PLAN : PySem.W.nsIn K mainGlobals "PLAN" = some (some (.int 7 t_PLAN)))
    (v_NEEDED : PySem.W.nsIn K mainGlobals "NEEDED" = some (some (.int 8 t_NEEDED)))
    (v_BY : PySem.W.nsIn K mainGlobals "BY" = some (some (.int 9 t_BY)))
    (v_WALL : PySem.W.nsIn K mainGlobals "WALL" = some (some (.int 10 t_WALL)))
    (v_NUMBERS : PySem.W.nsIn K mainGlobals "NUMBERS" = some (some (.ref d_NUMBERS)))
    (l_NUMBERS : K.lookup d_NUMBERS = some ⟨.type "tuple", od_NUMBERS, .seq #[.int 2 t_NUMBERS0, .int 0 t_NUMBERS1, .int 0 t_NUMBERS2, .int 2 t_NUMBERS3, .int 0 t_NUMBERS4, .int 0 t_NUMBERS5, .int 0 t_NUMBERS6, .int 1 t_NUMBERS7, .int 0 t_NUMBERS8, .int 0 t_NUMBERS9, .int 0 t_NUMBERS10, .int 0 t_NUMBERS11] z_NUMBERS, sl_NUMBERS⟩)
    (v_LISTED : PySem.W.nsIn K mainGlobals "LISTED" = some (some (.ref d_LISTED)))
    (l_LISTED : K.lookup d_LISTED = some ⟨.type "tuple", od_LISTED, .seq #[.int 1 t_LISTED0, .int 2 t_LISTED1, .int 9 t_LISTED2] z_LISTED, sl_LISTED⟩) :
    ∃ fd : FuncData, (∀ (s : Shared) (us : List Value), us.length = (["calls"] : List Str).length → BindsTo s fd ⟨us, []⟩ ((["calls"] : List Str).zip us)) ∧ ∀ base : Heap, K.In base → base.Ns mainGlobals mg → FnOk P w K mg base CX0 15 fa fd ["calls"] (spAns K) := by
  have e := hfa.symm.trans (PySem.W.mg_of X G a28)
  cases e
  have F0 := fun_mk (st := sSprayed) l0 c0 k0
  have A0 : At K mg "sprayed" sSprayed _ _ ["cells", "stencil", "colour"] := ⟨PySem.W.mg_of X G a0, F0, F0.binds (ps := ["cells", "stencil", "colour"]) fun _ _ _ _ _ _ us hl => match us, hl with | [_, _, _], _ => rfl⟩
  have F1 := fun_mk (st := sOtherwise) l1 c1 k1
  have A1 : At K mg "otherwise" sOtherwise _ _ ["cells", "wanted"] := ⟨PySem.W.mg_of X G a1, F1, F1.binds (ps := ["cells", "wanted"]) fun _ _ _ _ _ _ us hl => match us, hl with | [_, _], _ => rfl⟩
  have F2 := fun_mk (st := sSeen) l2 c2 k2
  have A2 : At K mg "seen_colour" sSeen _ _ ["surface", "stencil", "hidden"] := ⟨PySem.W.mg_of X G a2, F2, F2.binds (ps := ["surface", "stencil", "hidden"]) fun _ _ _ _ _ _ us hl => match us, hl with | [_, _, _], _ => rfl⟩
  have F3 := fun_mk (st := sPlanBy) l3 c3 k3
  have A3 : At K mg "plan_by" sPlanBy _ _ ["surface", "order"] := ⟨PySem.W.mg_of X G a3, F3, F3.binds (ps := ["surface", "order"]) fun _ _ _ _ _ _ us hl => match us, hl with | [_, _], _ => rfl⟩
  have F4 := fun_mk (st := sOrders) l4 c4 k4
  have A4 : At K mg "orders_of" sOrders _ _ ["stencils", "many"] := ⟨PySem.W.mg_of X G a4, F4, F4.binds (ps := ["stencils", "many"]) fun _ _ _ _ _ _ us hl => match us, hl with | [_, _], _ => rfl⟩
  have F5 := fun_mk (st := sPlansWith) l5 c5 k5
  have A5 : At K mg "plans_with" sPlansWith _ _ ["surface", "stencils", "many"] := ⟨PySem.W.mg_of X G a5, F5, F5.binds (ps := ["surface", "stencils", "many"]) fun _ _ _ _ _ _ us hl => match us, hl with | [_, _, _], _ => rfl⟩
  have F6 := fun_mk (st := sPlansBy) l6 c6 k6
  have A6 : At K mg "plans_by" sPlansBy _ _ ["surface", "stencils"] := ⟨PySem.W.mg_of X G a6, F6, F6.binds (ps := ["surface", "stencils"]) fun _ _ _ _ _ _ us hl => match us, hl with | [_, _], _ => rfl⟩
  have F7 := fun_mk (st := sAllSt) l7 c7 k7
  have A7 : At K mg "all_stencils" sAllSt _ _ ["surface"] := ⟨PySem.W.mg_of X G a7, F7, F7.binds (ps := ["surface"]) fun _ _ _ _ _ _ us hl => match us, hl with | [_], _ => rfl⟩
  have F8 := fun_mk (st := sPlansOf) l8 c8 k8
  have A8 : At K mg "plans_of" sPlansOf _ _ ["surface"] := ⟨PySem.W.mg_of X G a8, F8, F8.binds (ps := ["surface"]) fun _ _ _ _ _ _ us hl => match us, hl with | [_], _ => rfl⟩
  have F9 := fun_mk (st := sIsNeeded) l9 c9 k9
  have A9 : At K mg "is_needed" sIsNeeded _ _ ["surface", "stencil"] := ⟨PySem.W.mg_of X G a9, F9, F9.binds (ps := ["surface", "stencil"]) fun _ _ _ _ _ _ us hl => match us, hl with | [_, _], _ => rfl⟩
  have F10 := fun_mk (st := sNeededOf) l10 c10 k10
  have A10 : At K mg "needed_of" sNeededOf _ _ ["surface"] := ⟨PySem.W.mg_of X G a10, F10, F10.binds (ps := ["surface"]) fun _ _ _ _ _ _ us hl => match us, hl with | [_], _ => rfl⟩
  have F11 := fun_mk (st := sNeed) l11 c11 k11
  have A11 : At K mg "need" sNeed _ _ ["holds", "code"] := ⟨PySem.W.mg_of X G a11, F11, F11.binds (ps := ["holds", "code"]) fun _ _ _ _ _ _ us hl => match us, hl with | [_, _], _ => rfl⟩
  have F12 := fun_mk (st := sWithLen) l12 c12 k12
  have A12 : At K mg "with_length" sWithLen _ _ ["numbers"] := ⟨PySem.W.mg_of X G a12, F12, F12.binds (ps := ["numbers"]) fun _ _ _ _ _ _ us hl => match us, hl with | [_], _ => rfl⟩
  have F13 := fun_mk (st := sManyWrong) l13 c13 k13
  have A13 : At K mg "many_wrong" sManyWrong _ _ ["surface"] := ⟨PySem.W.mg_of X G a13, F13, F13.binds (ps := ["surface"]) fun _ _ _ _ _ _ us hl => match us, hl with | [_], _ => rfl⟩
  have F14 := fun_mk (st := sBegins) l14 c14 k14
  have A14 : At K mg "begins" sBegins _ _ ["wall", "many_rows", "many_columns"] := ⟨PySem.W.mg_of X G a14, F14, F14.binds (ps := ["wall", "many_rows", "many_columns"]) fun _ _ _ _ _ _ us hl => match us, hl with | [_, _, _], _ => rfl⟩
  have F15 := fun_mk (st := sStencilPut) l15 c15 k15
  have A15 : At K mg "stencil_put" sStencilPut _ _ ["surface", "cells"] := ⟨PySem.W.mg_of X G a15, F15, F15.binds (ps := ["surface", "cells"]) fun _ _ _ _ _ _ us hl => match us, hl with | [_, _], _ => rfl⟩
  have F16 := fun_mk (st := sPictureSet) l16 c16 k16
  have A16 : At K mg "picture_set" sPictureSet _ _ ["surface", "wanted"] := ⟨PySem.W.mg_of X G a16, F16, F16.binds (ps := ["surface", "wanted"]) fun _ _ _ _ _ _ us hl => match us, hl with | [_, _], _ => rfl⟩
  have F17 := fun_mk (st := sIsColour) l17 c17 k17
  have A17 : At K mg "is_colour" sIsColour _ _ ["number"] := ⟨PySem.W.mg_of X G a17, F17, F17.binds (ps := ["number"]) fun _ _ _ _ _ _ us hl => match us, hl with | [_], _ => rfl⟩
  have F18 := fun_mk (st := sSprayDone) l18 c18 k18
  have A18 : At K mg "spray_done" sSprayDone _ _ ["surface", "stencil", "colour"] := ⟨PySem.W.mg_of X G a18, F18, F18.binds (ps := ["surface", "stencil", "colour"]) fun _ _ _ _ _ _ us hl => match us, hl with | [_, _, _], _ => rfl⟩
  have F19 := fun_mk (st := sWashed) l19 c19 k19
  have A19 : At K mg "washed" sWashed _ _ ["surface"] := ⟨PySem.W.mg_of X G a19, F19, F19.binds (ps := ["surface"]) fun _ _ _ _ _ _ us hl => match us, hl with | [_], _ => rfl⟩
  have F20 := fun_mk (st := sFewestTold) l20 c20 k20
  have A20 : At K mg "fewest_told" sFewestTold _ _ ["surface"] := ⟨PySem.W.mg_of X G a20, F20, F20.binds (ps := ["surface"]) fun _ _ _ _ _ _ us hl => match us, hl with | [_], _ => rfl⟩
  have F21 := fun_mk (st := sPlanTold) l21 c21 k21
  have A21 : At K mg "plan_told" sPlanTold _ _ ["surface", "number"] := ⟨PySem.W.mg_of X G a21, F21, F21.binds (ps := ["surface", "number"]) fun _ _ _ _ _ _ us hl => match us, hl with | [_, _], _ => rfl⟩
  have F22 := fun_mk (st := sNeededTold) l22 c22 k22
  have A22 : At K mg "needed_told" sNeededTold _ _ ["surface"] := ⟨PySem.W.mg_of X G a22, F22, F22.binds (ps := ["surface"]) fun _ _ _ _ _ _ us hl => match us, hl with | [_], _ => rfl⟩
  have F23 := fun_mk (st := sByTold) l23 c23 k23
  have A23 : At K mg "by_told" sByTold _ _ ["surface", "numbers"] := ⟨PySem.W.mg_of X G a23, F23, F23.binds (ps := ["surface", "numbers"]) fun _ _ _ _ _ _ us hl => match us, hl with | [_, _], _ => rfl⟩
  have F24 := fun_mk (st := sStateTold) l24 c24 k24
  have A24 : At K mg "state_told" sStateTold _ _ ["surface"] := ⟨PySem.W.mg_of X G a24, F24, F24.binds (ps := ["surface"]) fun _ _ _ _ _ _ us hl => match us, hl with | [_], _ => rfl⟩
  have F25 := fun_mk (st := sAsked) l25 c25 k25
  have A25 : At K mg "asked" sAsked _ _ ["surface", "call", "numbers", "row"] := ⟨PySem.W.mg_of X G a25, F25, F25.binds (ps := ["surface", "call", "numbers", "row"]) fun _ _ _ _ _ _ us hl => match us, hl with | [_, _, _, _], _ => rfl⟩
  have F26 := fun_mk (st := sAnswered) l26 c26 k26
  have A26 : At K mg "answered" sAnswered _ _ ["wall", "call", "numbers", "row"] := ⟨PySem.W.mg_of X G a26, F26, F26.binds (ps := ["wall", "call", "numbers", "row"]) fun _ _ _ _ _ _ us hl => match us, hl with | [_, _, _, _], _ => rfl⟩
  have F27 := fun_mk (st := sOutcome) l27 c27 k27
  have A27 : At K mg "outcome" sOutcome _ _ ["wall", "call", "numbers", "row"] := ⟨PySem.W.mg_of X G a27, F27, F27.binds (ps := ["wall", "call", "numbers", "row"]) fun _ _ _ _ _ _ us hl => match us, hl with | [_, _, _, _], _ => rfl⟩
  have F28 := fun_mk (st := sAnswers) l28 c28 k28
  have A28 : At K mg "answers" sAnswers _ _ ["calls"] := ⟨PySem.W.mg_of X G a28, F28, F28.binds (ps := ["calls"]) fun _ _ _ _ _ _ us hl => match us, hl with | [_], _ => rfl⟩
  have FCS := fun_mk (st := sSurfI) lCS cCS kCS
  have BCS := FCS.binds (ps := ["self", "many_rows", "many_columns"]) fun _ _ _ _ _ _ us hl => match us, hl with | [_, _, _], _ => rfl
  have FCW := fun_mk (st := sWallI) lCW cCW kCW
  have BCW := FCW.binds (ps := ["self"]) fun _ _ _ _ _ _ us hl => match us, hl with | [_], _ => rfl
  have FCR := fun_mk (st := sRefI) lCR cCR kCR
  have BCR := FCR.binds (ps := ["self", "code"]) fun _ _ _ _ _ _ us hl => match us, hl with | [_, _], _ => rfl
  have B : Blt mg := ⟨PySem.W.mg_none_of X G b_len, PySem.W.mg_none_of X G b_range, PySem.W.mg_none_of X G b_any, PySem.W.mg_none_of X G b_all, PySem.W.mg_none_of X G b_sorted, PySem.W.mg_none_of X G b_set, PySem.W.mg_none_of X G b_list⟩
  have S : SurfC K CS := ⟨⟨gCS, hCS, oCS, sCS⟩, nCS0, nCS1, nCS2, nCS3, nCS4, nCS5⟩
  have W : WallC K CW := ⟨⟨gCW, hCW, oCW, sCW⟩, nCW0⟩
  have T : RefC K CR fRI := ⟨⟨⟨nm, qq, NN, bs, _, sn, sub, ab, col, dd, m0, m1, m2, m3, m5, xCR, by decide +kernel⟩, sCR, eCR, yCR, pCR⟩, ⟨gaCR, ggCR, eCR, hCR⟩, nCR, iCR, tCR⟩
  have N : Nums mg := ⟨num_mk X G v_BEGINS, num_mk X G v_STENCIL, num_mk X G v_PICTURE, num_mk X G v_SPRAY, num_mk X G v_WASH, num_mk X G v_WRONG, num_mk X G v_FEWEST, num_mk X G v_PLAN, num_mk X G v_NEEDED, num_mk X G v_BY, num_mk X G v_WALL⟩
  have T_NUMBERS : TupG K mg "NUMBERS" numV := tup_mk (l := [2, 0, 0, 2, 0, 0, 0, 1, 0, 0, 0, 0]) X G v_NUMBERS l_NUMBERS rfl rfl (.cons _ _ (.cons _ _ (.cons _ _ (.cons _ _ (.cons _ _ (.cons _ _ (.cons _ _ (.cons _ _ (.cons _ _ (.cons _ _ (.cons _ _ (.cons _ _ (.nil))))))))))))) (by decide)
  have T_LISTED : TupG K mg "LISTED" lisV := tup_mk (l := [1, 2, 9]) X G v_LISTED l_LISTED rfl rfl (.cons _ _ (.cons _ _ (.cons _ _ (.nil)))) (by decide)
  have fd : ∀ (s : Shared) (us : List Value), us.length = (["calls"] : List Str).length → BindsTo s (PySem.W.fnOf "answers" "answers" (defArgs sAnswers) (defBody sAnswers) (defScope sAnswers) .none kV28 dc28 pm28 an28 cd28 ct28) ⟨us, []⟩ ((["calls"] : List Str).zip us) := fun s us hu => match us, hu with | [_], _ => .of_eq rfl
  exact ⟨_, fd, fun base _ _ => all_ok B S W T (exm_me eCR zCR yCR uCR) (PySem.W.mg_of X G aCS) (PySem.W.mg_of X G aCR) (PySem.W.mg_of X G aCW) ⟨mCS, iCS, jCS, pCS⟩ ⟨mCW, iCW, jCW, pCW⟩ FCS BCS FCR BCR FCW BCW N (num_mk X G v_BARE) (num_mk X G v_MOST_COLOURS) (num_mk X G v_MOST_SIDE) (num_mk X G v_MOST_STENCILS) (num_mk X G v_OUT_OF_RANGE) (num_mk X G v_NONE_SUCH) (num_mk X G v_TOO_MANY) (num_mk X G v_NO_PLAN) T_NUMBERS T_LISTED A0 A1 A2 A3 A4 A5 A6 A7 A8 A9 A10 A11 A12 A13 A14 A15 A16 A17 A18 A19 A20 A21 A22 A23 A24 A25 A26 A27 A28⟩
end SW

open PySem PySem.W PyProof.Rows
set_option maxRecDepth 100000 in
set_option maxHeartbeats 0 in
theorem PySem.Challenge.cw_stencilwall_s01_answers_holds : PySem.Challenge.rw_stencilwall_s01_answers.Holds := by
  w_on; k_headS; (case hw => exact ⟨[.list [.int 4]], by decide +kernel, by decide +kernel⟩)
  k_fillS
  refine L2.walk_specK (r := PySem.Challenge.rw_stencilwall_s01_answers) (k := 15) (CX := L2.CX0) (ps := ["calls"]) (sp := SW.spAns) (by decide +kernel) rfl rfl ⟨rfl, by decide, by decide⟩ (fun w h Y => PySem.W.kIn_of Y) ?F ?S (fun _ _ _ _ z => z)
  case F =>
    intro w mg fa h Y KX G hmg
    refine' SW.head_mk KX G hmg ?a0 ?l0 ?c0 ?k0 ?a1 ?l1 ?c1 ?k1 ?a2 ?l2 ?c2 ?k2 ?a3 ?l3 ?c3 ?k3 ?a4 ?l4 ?c4 ?k4 ?a5 ?l5 ?c5 ?k5 ?a6 ?l6 ?c6 ?k6 ?a7 ?l7 ?c7 ?k7 ?a8 ?l8 ?c8 ?k8 ?a9 ?l9 ?c9 ?k9 ?a10 ?l10 ?c10 ?k10 ?a11 ?l11 ?c11 ?k11 ?a12 ?l12 ?c12 ?k12 ?a13 ?l13 ?c13 ?k13 ?a14 ?l14 ?c14 ?k14 ?a15 ?l15 ?c15 ?k15 ?a16 ?l16 ?c16 ?k16 ?a17 ?l17 ?c17 ?k17 ?a18 ?l18 ?c18 ?k18 ?a19 ?l19 ?c19 ?k19 ?a20 ?l20 ?c20 ?k20 ?a21 ?l21 ?c21 ?k21 ?a22 ?l22 ?c22 ?k22 ?a23 ?l23 ?c23 ?k23 ?a24 ?l24 ?c24 ?k24 ?a25 ?l25 ?c25 ?k25 ?a26 ?l26 ?c26 ?k26 ?a27 ?l27 ?c27 ?k27 ?a28 ?l28 ?c28 ?k28 ?aCS ?iCS ?jCS ?lCS ?cCS ?kCS ?gCS ?hCS ?oCS ?sCS ?mCS ?pCS ?nCS0 ?nCS1 ?nCS2 ?nCS3 ?nCS4 ?nCS5 ?aCW ?iCW ?jCW ?lCW ?cCW ?kCW ?gCW ?hCW ?oCW ?sCW ?mCW ?pCW ?nCW0 ?aCR ?xCR ?sCR ?gaCR ?ggCR ?nCR ?iCR ?tCR ?lCR ?cCR ?kCR ?pCR ?eCR ?yCR ?hCR ?zCR ?uCR ?b_len ?b_range ?b_any ?b_all ?b_sorted ?b_set ?b_list ?v_BARE ?v_MOST_COLOURS ?v_MOST_SIDE ?v_MOST_STENCILS ?v_OUT_OF_RANGE ?v_NONE_SUCH ?v_TOO_MANY ?v_NO_PLAN ?v_BEGINS ?v_STENCIL ?v_PICTURE ?v_SPRAY ?v_WASH ?v_WRONG ?v_FEWEST ?v_PLAN ?v_NEEDED ?v_BY ?v_WALL ?v_NUMBERS ?l_NUMBERS ?v_LISTED ?l_LISTED
    (case a0 => k_is)
    (case l0 => k_is)
    (case c0 => k_is)
    (case k0 => k_is)
    (case a1 => k_is)
    (case l1 => k_is)
    (case c1 => k_is)
    (case k1 => k_is)
    (case a2 => k_is)
    (case l2 => k_is)
    (case c2 => k_is)
    (case k2 => k_is)
    (case a3 => k_is)
    (case l3 => k_is)
    (case c3 => k_is)
    (case k3 => k_is)
    (case a4 => k_is)
    (case l4 => k_is)
    (case c4 => k_is)
    (case k4 => k_is)
    (case a5 => k_is)
    (case l5 => k_is)
    (case c5 => k_is)
    (case k5 => k_is)
    (case a6 => k_is)
    (case l6 => k_is)
    (case c6 => k_is)
    (case k6 => k_is)
    (case a7 => k_is)
    (case l7 => k_is)
    (case c7 => k_is)
    (case k7 => k_is)
    (case a8 => k_is)
    (case l8 => k_is)
    (case c8 => k_is)
    (case k8 => k_is)
    (case a9 => k_is)
    (case l9 => k_is)
    (case c9 => k_is)
    (case k9 => k_is)
    (case a10 => k_is)
    (case l10 => k_is)
    (case c10 => k_is)
    (case k10 => k_is)
    (case a11 => k_is)
    (case l11 => k_is)
    (case c11 => k_is)
    (case k11 => k_is)
    (case a12 => k_is)
    (case l12 => k_is)
    (case c12 => k_is)
    (case k12 => k_is)
    (case a13 => k_is)
    (case l13 => k_is)
    (case c13 => k_is)
    (case k13 => k_is)
    (case a14 => k_is)
    (case l14 => k_is)
    (case c14 => k_is)
    (case k14 => k_is)
    (case a15 => k_is)
    (case l15 => k_is)
    (case c15 => k_is)
    (case k15 => k_is)
    (case a16 => k_is)
    (case l16 => k_is)
    (case c16 => k_is)
    (case k16 => k_is)
    (case a17 => k_is)
    (case l17 => k_is)
    (case c17 => k_is)
    (case k17 => k_is)
    (case a18 => k_is)
    (case l18 => k_is)
    (case c18 => k_is)
    (case k18 => k_is)
    (case a19 => k_is)
    (case l19 => k_is)
    (case c19 => k_is)
    (case k19 => k_is)
    (case a20 => k_is)
    (case l20 => k_is)
    (case c20 => k_is)
    (case k20 => k_is)
    (case a21 => k_is)
    (case l21 => k_is)
    (case c21 => k_is)
    (case k21 => k_is)
    (case a22 => k_is)
    (case l22 => k_is)
    (case c22 => k_is)
    (case k22 => k_is)
    (case a23 => k_is)
    (case l23 => k_is)
    (case c23 => k_is)
    (case k23 => k_is)
    (case a24 => k_is)
    (case l24 => k_is)
    (case c24 => k_is)
    (case k24 => k_is)
    (case a25 => k_is)
    (case l25 => k_is)
    (case c25 => k_is)
    (case k25 => k_is)
    (case a26 => k_is)
    (case l26 => k_is)
    (case c26 => k_is)
    (case k26 => k_is)
    (case a27 => k_is)
    (case l27 => k_is)
    (case c27 => k_is)
    (case k27 => k_is)
    (case a28 => k_is)
    (case l28 => k_is)
    (case c28 => k_is)
    (case k28 => k_is)
    (case aCS => k_is)
    (case iCS => k_is)
    (case jCS => k_is)
    (case lCS => k_is)
    (case cCS => k_is)
    (case kCS => k_is)
    (case gCS => k_is)
    (case hCS => k_is)
    (case oCS => k_is)
    (case sCS => k_is)
    (case mCS => k_is)
    (case pCS => k_is)
    (case nCS0 => k_is)
    (case nCS1 => k_is)
    (case nCS2 => k_is)
    (case nCS3 => k_is)
    (case nCS4 => k_is)
    (case nCS5 => k_is)
    (case aCW => k_is)
    (case iCW => k_is)
    (case jCW => k_is)
    (case lCW => k_is)
    (case cCW => k_is)
    (case kCW => k_is)
    (case gCW => k_is)
    (case hCW => k_is)
    (case oCW => k_is)
    (case sCW => k_is)
    (case mCW => k_is)
    (case pCW => k_is)
    (case nCW0 => k_is)
    (case aCR => k_is)
    (case xCR => k_is)
    (case sCR => k_is)
    (case gaCR => k_is)
    (case ggCR => k_is)
    (case nCR => k_is)
    (case iCR => k_is)
    (case tCR => k_is)
    (case lCR => k_is)
    (case cCR => k_is)
    (case kCR => k_is)
    (case pCR => k_is)
    (case eCR => k_is)
    (case yCR => k_is)
    (case hCR => k_is)
    (case zCR => k_is)
    (case uCR => first | rfl | k_is)
    (case b_len => k_is)
    (case b_range => k_is)
    (case b_any => k_is)
    (case b_all => k_is)
    (case b_sorted => k_is)
    (case b_set => k_is)
    (case b_list => k_is)
    (case v_BARE => k_is)
    (case v_MOST_COLOURS => k_is)
    (case v_MOST_SIDE => k_is)
    (case v_MOST_STENCILS => k_is)
    (case v_OUT_OF_RANGE => k_is)
    (case v_NONE_SUCH => k_is)
    (case v_TOO_MANY => k_is)
    (case v_NO_PLAN => k_is)
    (case v_BEGINS => k_is)
    (case v_STENCIL => k_is)
    (case v_PICTURE => k_is)
    (case v_SPRAY => k_is)
    (case v_WASH => k_is)
    (case v_WRONG => k_is)
    (case v_FEWEST => k_is)
    (case v_PLAN => k_is)
    (case v_NEEDED => k_is)
    (case v_BY => k_is)
    (case v_WALL => k_is)
    (case v_NUMBERS => k_is)
    (case l_NUMBERS => k_is)
    (case v_LISTED => k_is)
    (case l_LISTED => k_is)
  case S =>
    intro K H xs a hO hwi hask hx
    cases hx with
    | cons h1 h2 =>
      cases h2
      cases h1 with
      | lst hs ha =>
        have e := L2.ints_dw a.1 _ ha
        subst e
        exact ⟨_, a.1, rfl, hs, hask, fun H' p hp => .lst (L2.SqL.of hp) (L2.dw_ints _)⟩
#print axioms PySem.Challenge.cw_stencilwall_s01_answers_holds
