import PyProof.Rows.All
import Wide.All
import OpenK.AllK
import Wide.FinOn
import PyProof.EqAt
import PyProof.EqKinds
import PyProof.TupleCall
import Open.SpecLaws
import KE.OsGo
import KE.KNestM
import HandS.ForSpec
import HandS.ForMost
import HandS.ExcInit
import HandS.ExcField
import HandS.ExcValue
import HandS.NoneIn
import HandS.Lambda
import HandS.SortInts
import HandS.Codes
import HandS.HeadWalk
import HandS.Spec
import PySem.Challenge.RW_axiomparts_s01_answers
set_option Elab.async false
set_option linter.all false
set_option maxRecDepth 100000
set_option maxHeartbeats 2000000
namespace Ax
open Oc
/-! ### finite models -/
structure Mdl where
  dom : List Nat
  nm : Nat → Nat → Bool
  rl : Nat → Nat → Nat → Bool
def sat (M : Mdl) : C → Nat → Bool
  | .top, _ => true
  | .bot, _ => false
  | .name a, x => M.nm x a
  | .and c d, x => sat M c x && sat M d x
  | .or c d, x => sat M c x || sat M d x
  | .not c, x => !sat M c x
  | .some r c, x => M.dom.any fun y => M.rl r x y && sat M c y
  | .all r c, x => M.dom.all fun y => !M.rl r x y || sat M c y
/-! ### a list of truth values as a number -/
def bitsOf : List Bool → Nat
  | [] => 0
  | b :: l => (if b = true then 1 else 0) + 2 * bitsOf l
theorem bitsOf_lt : ∀ l : List Bool, bitsOf l < 2 ^ l.length
  | [] => by show 0 < 1; decide
  | b :: l => by
    have h := bitsOf_lt l
    show (if b = true then 1 else 0) + 2 * bitsOf l < 2 ^ (l.length + 1)
    rw [Nat.pow_succ]
    split <;> omega
theorem bit_bitsOf : ∀ (l : List Bool) (k : Nat), bit (bitsOf l) k = l[k]?.getD false
  | [], k => by
    show (0 / 2 ^ k % 2 == 1) = false
    rw [Nat.zero_div]; rfl
  | b :: l, 0 => by
    show (((if b = true then 1 else 0) + 2 * bitsOf l) / 2 ^ 0 % 2 == 1) = b
    rw [Nat.pow_zero, Nat.div_one]
    cases b with
    | true =>
      have : (1 + 2 * bitsOf l) % 2 = 1 := by omega
      simp [this]
    | false =>
      have : (0 + 2 * bitsOf l) % 2 = 0 := by omega
      simp [this]
  | b :: l, k + 1 => by
    have h := bit_bitsOf l k
    show (((if b = true then 1 else 0) + 2 * bitsOf l) / 2 ^ (k + 1) % 2 == 1) = l[k]?.getD false
    have e2 : ((if b = true then 1 else 0) + 2 * bitsOf l) / 2 = bitsOf l := by
      split <;> omega
    have e : ((if b = true then 1 else 0) + 2 * bitsOf l) / 2 ^ (k + 1) = bitsOf l / 2 ^ k := by
      rw [Nat.pow_succ, Nat.mul_comm (2 ^ k) 2, ← Nat.div_div_eq_div_mul, e2]
    rw [e]
    exact h
/-! ### lists of atoms -/
/-- the list has all atoms of the concept -/
def Cov (at_ : List C) (c : C) : Prop := ∀ b ∈ c.atoms, b ∈ at_
def Closed (at_ : List C) : Prop := ∀ a ∈ at_, Cov at_ a
def typ (M : Mdl) (at_ : List C) (x : Nat) : Nat := bitsOf (at_.map fun a => sat M a x)
theorem typ_lt (M : Mdl) (at_ : List C) (x : Nat) : typ M at_ x < 2 ^ at_.length := by
  have h := bitsOf_lt (at_.map fun a => sat M a x)
  rw [List.length_map] at h
  exact h
theorem idx_of_mem {at_ : List C} {a : C} (h : a ∈ at_) : ∃ k, at_.idxOf? a = some k ∧ at_[k]? = some a := by
  cases e : at_.idxOf? a with
  | none => exact absurd h (List.idxOf?_eq_none_iff.mp e)
  | some k =>
    refine ⟨k, rfl, ?_⟩
    obtain ⟨h1, h2, _⟩ := List.findIdx?_eq_some_iff_getElem.mp e
    rw [List.getElem?_eq_getElem h1]
    exact congrArg some (eq_of_beq h2)
theorem bit_typ {M : Mdl} {at_ : List C} {x k : Nat} {a : C} (h : at_[k]? = some a) : bit (typ M at_ x) k = sat M a x := by
  unfold typ
  rw [bit_bitsOf, List.getElem?_map, h]; rfl
/-- an atom's bit -/
def isAt : C → Bool
  | .name _ => true
  | .some _ _ => true
  | .all _ _ => true
  | _ => false
theorem holds_atom {at_ : List C} {t k : Nat} {a : C} (h : at_.idxOf? a = some k) (ha : isAt a = true) : holds at_ t a = bit t k := by
  cases a with
  | name b => unfold holds; rw [h]
  | some r c => unfold holds; rw [h]
  | all r c => unfold holds; rw [h]
  | _ => cases ha
theorem holds_typ {M : Mdl} {at_ : List C} {x : Nat} : ∀ {c : C}, Cov at_ c → holds at_ (typ M at_ x) c = sat M c x
  | .top, _ => rfl
  | .bot, _ => rfl
  | .name a, h => by
    obtain ⟨k, h1, h2⟩ := idx_of_mem (h (.name a) (List.mem_singleton.mpr rfl))
    rw [holds_atom h1 rfl, bit_typ h2]
  | .and c d, h => by
    show (holds at_ _ c && holds at_ _ d) = (sat M c x && sat M d x)
    rw [holds_typ fun b hb => h b (List.mem_append_left _ hb), holds_typ fun b hb => h b (List.mem_append_right _ hb)]
  | .or c d, h => by
    show (holds at_ _ c || holds at_ _ d) = (sat M c x || sat M d x)
    rw [holds_typ fun b hb => h b (List.mem_append_left _ hb), holds_typ fun b hb => h b (List.mem_append_right _ hb)]
  | .not c, h => by
    show (!holds at_ _ c) = !sat M c x
    rw [holds_typ (c := c) h]
  | .some r c, h => by
    obtain ⟨k, h1, h2⟩ := idx_of_mem (h (.some r c) List.mem_cons_self)
    rw [holds_atom h1 rfl, bit_typ h2]
  | .all r c, h => by
    obtain ⟨k, h1, h2⟩ := idx_of_mem (h (.all r c) List.mem_cons_self)
    rw [holds_atom h1 rfl, bit_typ h2]
/-! ### settle: the greatest list of types that are borne -/
theorem borne_mono {at_ : List C} {l m : List Nat} {t : Nat} (h : ∀ u ∈ l, u ∈ m) (b : borne at_ l t = true) : borne at_ m t = true := by
  unfold borne at *
  rw [List.all_eq_true] at *
  intro x hx
  have q := b x hx
  cases x with
  | some r c =>
    simp only [Bool.or_eq_true, List.any_eq_true] at q ⊢
    rcases q with q | ⟨u, hu, q⟩
    · exact .inl q
    · exact .inr ⟨u, h u hu, q⟩
  | all r c =>
    simp only [Bool.or_eq_true, List.any_eq_true] at q ⊢
    rcases q with q | ⟨u, hu, q⟩
    · exact .inl q
    · exact .inr ⟨u, h u hu, q⟩
  | _ => exact q
theorem settle_sub {at_ : List C} : ∀ (n : Nat) (l : List Nat), ∀ u ∈ settle at_ n l, u ∈ l
  | 0, _, _, h => h
  | n + 1, l, u, h => by
    unfold settle at h
    dsimp only at h
    split at h
    · exact h
    · exact (List.mem_filter.mp (settle_sub n _ u h)).1
theorem settle_fix {at_ : List C} : ∀ (n : Nat) (l : List Nat), l.length < n → ∀ u ∈ settle at_ n l, borne at_ (settle at_ n l) u = true
  | 0, _, h, _, _ => absurd h (Nat.not_lt_zero _)
  | n + 1, l, h, u, hu => by
    unfold settle at hu ⊢
    dsimp only at hu ⊢
    split at hu
    · rename_i e
      rw [if_pos e]
      have q := List.length_filter_eq_length_iff.mp e
      exact q u hu
    · rename_i e
      rw [if_neg e]
      refine settle_fix n _ ?_ u hu
      have q : (l.filter (borne at_ l)).length ≤ l.length := List.length_filter_le _ _
      omega
theorem settle_all {at_ : List C} {S : List Nat} (hS : ∀ u ∈ S, borne at_ S u = true) : ∀ (n : Nat) (l : List Nat), (∀ u ∈ S, u ∈ l) → ∀ u ∈ S, u ∈ settle at_ n l
  | 0, _, h, u, hu => h u hu
  | n + 1, l, h, u, hu => by
    unfold settle
    dsimp only
    split
    · exact h u hu
    · exact settle_all hS n _ (fun v hv => List.mem_filter.mpr ⟨h v hv, borne_mono h (hS v hv)⟩) u hu
/-- the types that the program keeps, from the first ones given by P -/
def kept (at_ : List C) (P : Nat → Bool) : List Nat := settle at_ (2 ^ at_.length + 1) ((List.range (2 ^ at_.length)).filter P)
theorem kept_fix {at_ : List C} {P : Nat → Bool} : ∀ u ∈ kept at_ P, borne at_ (kept at_ P) u = true :=
  settle_fix _ _ (by
    have h := List.length_filter_le P (List.range (2 ^ at_.length))
    rw [List.length_range] at h
    omega)
theorem kept_P {at_ : List C} {P : Nat → Bool} {u : Nat} (h : u ∈ kept at_ P) : u < 2 ^ at_.length ∧ P u = true := by
  have q := List.mem_filter.mp (settle_sub _ _ u h)
  exact ⟨List.mem_range.mp q.1, q.2⟩
/-! ### from models to types -/
theorem kept_of_model {at_ : List C} (hc : Closed at_) {P : Nat → Bool} {M : Mdl} (hP : ∀ x ∈ M.dom, P (typ M at_ x) = true) : ∀ x ∈ M.dom, typ M at_ x ∈ kept at_ P := by
  intro x hx
  refine settle_all (S := M.dom.map (typ M at_)) (fun u hu => ?_) _ _ (fun u hu => ?_) _ (List.mem_map_of_mem hx)
  · obtain ⟨y, hy, rfl⟩ := List.mem_map.mp hu
    have cov : ∀ {r : Nat} {c : C}, (C.some r c ∈ at_ ∨ C.all r c ∈ at_) → Cov at_ c := fun {r c} h b hb => by
      rcases h with h | h
      · exact hc _ h b (List.mem_cons_of_mem _ hb)
      · exact hc _ h b (List.mem_cons_of_mem _ hb)
    have ft : ∀ {r : Nat} {z : Nat}, z ∈ M.dom → M.rl r y z = true → fits at_ r (typ M at_ y) (typ M at_ z) = true := fun {r z} hz hr => by
      unfold fits
      rw [List.all_eq_true]
      intro a ha
      cases a with
      | some s c =>
        dsimp only
        by_cases e : s = r
        · subst e
          rw [holds_typ (hc _ ha), holds_typ (cov (.inl ha))]
          cases hs : sat M c z with
          | false => simp
          | true =>
            have : sat M (.some s c) y = true := by
              show (M.dom.any fun v => M.rl s y v && sat M c v) = true
              rw [List.any_eq_true]
              exact ⟨z, hz, by rw [hr, hs]; rfl⟩
            rw [this]; simp
        · have : (s != r) = true := by simp [e]
          rw [this]; rfl
      | all s c =>
        dsimp only
        by_cases e : s = r
        · subst e
          rw [holds_typ (hc _ ha), holds_typ (cov (.inr ha))]
          cases hs : sat M (.all s c) y with
          | false => simp
          | true =>
            have h1 : (M.dom.all fun v => !M.rl s y v || sat M c v) = true := hs
            have h2 := List.all_eq_true.mp h1 z hz
            rw [hr] at h2
            simp at h2
            rw [h2]; simp
        · have : (s != r) = true := by simp [e]
          rw [this]; rfl
      | _ => rfl
    unfold borne
    rw [List.all_eq_true]
    intro a ha
    cases a with
    | some r c =>
      dsimp only
      rw [holds_typ (hc _ ha)]
      cases hs : sat M (.some r c) y with
      | false => rfl
      | true =>
        have h1 : (M.dom.any fun v => M.rl r y v && sat M c v) = true := hs
        obtain ⟨z, hz, h2⟩ := List.any_eq_true.mp h1
        rw [Bool.and_eq_true] at h2
        rw [Bool.or_eq_true]
        refine .inr (List.any_eq_true.mpr ⟨typ M at_ z, List.mem_map_of_mem hz, ?_⟩)
        rw [ft hz h2.1, holds_typ (cov (.inl ha)), h2.2]; rfl
    | all r c =>
      dsimp only
      rw [holds_typ (hc _ ha)]
      cases hs : sat M (.all r c) y with
      | true => rfl
      | false =>
        have h1 : (M.dom.all fun v => !M.rl r y v || sat M c v) = false := hs
        obtain ⟨z, hz, h2⟩ := List.all_eq_false.mp h1
        have h3 : M.rl r y z = true ∧ sat M c z = false := by
          cases ha : M.rl r y z <;> cases hb : sat M c z <;> simp [ha, hb] at h2 ⊢
        rw [Bool.or_eq_true]
        refine .inr (List.any_eq_true.mpr ⟨typ M at_ z, List.mem_map_of_mem hz, ?_⟩)
        rw [ft hz h3.1, holds_typ (cov (.inr ha)), h3.2]; rfl
    | _ => rfl
  · obtain ⟨y, hy, rfl⟩ := List.mem_map.mp hu
    exact List.mem_filter.mpr ⟨List.mem_range.mpr (typ_lt M at_ y), hP y hy⟩
/-! ### from types to models -/
def canon (at_ : List C) (l : List Nat) (ok : Nat → Bool) : Mdl where
  dom := l
  nm t a := holds at_ t (.name a)
  rl r t u := ok r && fits at_ r t u
theorem canon_sat {at_ : List C} (hc : Closed at_) {l : List Nat} {ok : Nat → Bool} (hb : ∀ u ∈ l, borne at_ l u = true)
    (h1 : ∀ u ∈ l, ∀ r c, C.some r c ∈ at_ → ok r = false → holds at_ u (.some r c) = false) (h2 : ∀ u ∈ l, ∀ r c, C.all r c ∈ at_ → ok r = false → holds at_ u (.all r c) = true) :
    ∀ (c : C), Cov at_ c → ∀ t ∈ l, sat (canon at_ l ok) c t = holds at_ t c
  | .top, _, _, _ => rfl
  | .bot, _, _, _ => rfl
  | .name a, _, _, _ => rfl
  | .and c d, h, t, ht => by
    show (sat _ c t && sat _ d t) = (holds at_ t c && holds at_ t d)
    rw [canon_sat hc hb h1 h2 c (fun b hb => h b (List.mem_append_left _ hb)) t ht, canon_sat hc hb h1 h2 d (fun b hb => h b (List.mem_append_right _ hb)) t ht]
  | .or c d, h, t, ht => by
    show (sat _ c t || sat _ d t) = (holds at_ t c || holds at_ t d)
    rw [canon_sat hc hb h1 h2 c (fun b hb => h b (List.mem_append_left _ hb)) t ht, canon_sat hc hb h1 h2 d (fun b hb => h b (List.mem_append_right _ hb)) t ht]
  | .not c, h, t, ht => by
    show (!sat _ c t) = !holds at_ t c
    rw [canon_sat hc hb h1 h2 c h t ht]
  | .some r c, h, t, ht => by
    have hm : C.some r c ∈ at_ := h _ List.mem_cons_self
    have ih := canon_sat hc hb h1 h2 c fun b hb => h b (List.mem_cons_of_mem _ hb)
    have bt := List.all_eq_true.mp (hb t ht) _ hm
    dsimp only at bt
    show (l.any fun y => (ok r && fits at_ r t y) && sat (canon at_ l ok) c y) = holds at_ t (.some r c)
    cases e : holds at_ t (.some r c) with
    | true =>
      rw [e] at bt
      have bt' : (l.any fun u => fits at_ r t u && holds at_ u c) = true := by simpa using bt
      obtain ⟨u, hu, q⟩ := List.any_eq_true.mp bt'
      rw [Bool.and_eq_true] at q
      have o : ok r = true := by
        cases o : ok r with
        | true => rfl
        | false => have := h1 t ht r c hm o; rw [e] at this; cases this
      refine List.any_eq_true.mpr ⟨u, hu, ?_⟩
      rw [o, q.1, ih u hu, q.2]; rfl
    | false =>
      rw [List.any_eq_false]
      intro u hu q
      rw [ih u hu] at q
      simp only [Bool.and_eq_true] at q
      have f := List.all_eq_true.mp q.1.2 _ hm
      dsimp only at f
      rw [e, q.2] at f
      simp at f
  | .all r c, h, t, ht => by
    have hm : C.all r c ∈ at_ := h _ List.mem_cons_self
    have ih := canon_sat hc hb h1 h2 c fun b hb => h b (List.mem_cons_of_mem _ hb)
    have bt := List.all_eq_true.mp (hb t ht) _ hm
    dsimp only at bt
    show (l.all fun y => !(ok r && fits at_ r t y) || sat (canon at_ l ok) c y) = holds at_ t (.all r c)
    cases e : holds at_ t (.all r c) with
    | false =>
      rw [e] at bt
      have bt' : (l.any fun u => fits at_ r t u && !holds at_ u c) = true := by simpa using bt
      obtain ⟨u, hu, q⟩ := List.any_eq_true.mp bt'
      rw [Bool.and_eq_true] at q
      have o : ok r = true := by
        cases o : ok r with
        | true => rfl
        | false => have := h2 t ht r c hm o; rw [e] at this; cases this
      refine List.all_eq_false.mpr ⟨u, hu, ?_⟩
      rw [o, q.1, ih u hu]
      simpa using q.2
    | true =>
      rw [List.all_eq_true]
      intro u hu
      rw [ih u hu]
      cases o : ok r with
      | false => rfl
      | true =>
        cases f : fits at_ r t u with
        | false => rfl
        | true =>
          have f' := List.all_eq_true.mp f _ hm
          dsimp only at f'
          rw [e] at f'
          simpa using f'
end Ax

namespace Ax
open Oc
/-! ### atoms -/
theorem atoms_trans : ∀ (c : C) {b x : C}, b ∈ c.atoms → x ∈ b.atoms → x ∈ c.atoms
  | .top, _, _, h, _ => by cases h
  | .bot, _, _, h, _ => by cases h
  | .name a, b, x, h, hx => by
    have e := List.mem_singleton.mp h
    subst e; exact hx
  | .and c d, b, x, h, hx => by
    rcases List.mem_append.mp h with q | q
    · exact List.mem_append_left _ (atoms_trans c q hx)
    · exact List.mem_append_right _ (atoms_trans d q hx)
  | .or c d, b, x, h, hx => by
    rcases List.mem_append.mp h with q | q
    · exact List.mem_append_left _ (atoms_trans c q hx)
    · exact List.mem_append_right _ (atoms_trans d q hx)
  | .not c, b, x, h, hx => atoms_trans c h hx
  | .some r c, b, x, h, hx => by
    rcases List.mem_cons.mp h with q | q
    · subst q; exact hx
    · exact List.mem_cons_of_mem _ (atoms_trans c q hx)
  | .all r c, b, x, h, hx => by
    rcases List.mem_cons.mp h with q | q
    · subst q; exact hx
    · exact List.mem_cons_of_mem _ (atoms_trans c q hx)
theorem atoms_isAt : ∀ (c : C) {b : C}, b ∈ c.atoms → isAt b = true
  | .top, _, h => by cases h
  | .bot, _, h => by cases h
  | .name a, b, h => by
    have e := List.mem_singleton.mp h
    subst e; rfl
  | .and c d, b, h => by
    rcases List.mem_append.mp h with q | q
    · exact atoms_isAt c q
    · exact atoms_isAt d q
  | .or c d, b, h => by
    rcases List.mem_append.mp h with q | q
    · exact atoms_isAt c q
    · exact atoms_isAt d q
  | .not c, b, h => atoms_isAt c h
  | .some r c, b, h => by
    rcases List.mem_cons.mp h with q | q
    · subst q; rfl
    · exact atoms_isAt c q
  | .all r c, b, h => by
    rcases List.mem_cons.mp h with q | q
    · subst q; rfl
    · exact atoms_isAt c q
/-- each once, in order -/
def dist (l : List C) (m : List C) : List C := l.foldl (fun m c => if m.contains c = true then m else m ++ [c]) m
theorem distinct_eq (l : List C) : distinct l = dist l [] := rfl
theorem mem_dist {x : C} : ∀ {l m : List C}, x ∈ dist l m ↔ x ∈ m ∨ x ∈ l
  | [], m => by simp [dist]
  | a :: l, m => by
    show x ∈ dist l (if m.contains a = true then m else m ++ [a]) ↔ _
    rw [mem_dist (l := l)]
    split
    · rename_i h
      have h' : a ∈ m := List.contains_iff_mem.mp h
      constructor
      · rintro (q | q)
        · exact .inl q
        · exact .inr (List.mem_cons_of_mem _ q)
      · rintro (q | q)
        · exact .inl q
        · rcases List.mem_cons.mp q with e | q
          · subst e; exact .inl h'
          · exact .inr q
    · constructor
      · rintro (q | q)
        · rcases List.mem_append.mp q with q | q
          · exact .inl q
          · exact .inr (List.mem_singleton.mp q ▸ List.mem_cons_self)
        · exact .inr (List.mem_cons_of_mem _ q)
      · rintro (q | q)
        · exact .inl (List.mem_append_left _ q)
        · rcases List.mem_cons.mp q with e | q
          · exact .inl (List.mem_append_right _ (List.mem_singleton.mpr e))
          · exact .inr q
theorem nodup_dist : ∀ {l m : List C}, m.Nodup → (dist l m).Nodup
  | [], m, h => h
  | a :: l, m, h => by
    show (dist l (if m.contains a = true then m else m ++ [a])).Nodup
    split
    · exact nodup_dist h
    · rename_i q
      refine nodup_dist ?_
      rw [List.nodup_append]
      refine ⟨h, by simp, fun x hx y hy e => ?_⟩
      have := List.mem_singleton.mp hy
      subst this
      subst e
      exact q (List.contains_iff_mem.mpr hx)
theorem mem_atomsOf {x : C} {l : List C} : x ∈ atomsOf l ↔ ∃ c ∈ l, x ∈ c.atoms := by
  unfold atomsOf
  rw [distinct_eq, mem_dist, List.mem_flatMap]
  simp
theorem closed_of {l at_ : List C} (h : ∀ x, x ∈ at_ ↔ ∃ c ∈ l, x ∈ c.atoms) : Closed at_ := fun a ha b hb => by
  obtain ⟨c, hc, q⟩ := (h a).mp ha
  exact (h b).mpr ⟨c, hc, atoms_trans c q hb⟩
theorem closed_atomsOf (l : List C) : Closed (atomsOf l) := closed_of fun _ => mem_atomsOf
theorem cov_atomsOf {l : List C} {c : C} (h : c ∈ l) : Cov (atomsOf l) c := fun _ hb => mem_atomsOf.mpr ⟨c, h, hb⟩
/-! ### lists without repetition -/
theorem nodup_le {α : Type} [DecidableEq α] : ∀ {l m : List α}, l.Nodup → (∀ x ∈ l, x ∈ m) → l.length ≤ m.length
  | [], _, _, _ => Nat.zero_le _
  | a :: l, m, h, s => by
    have h' := List.nodup_cons.mp h
    have hm : a ∈ m := s a List.mem_cons_self
    have q := nodup_le (l := l) (m := m.erase a) h'.2 fun x hx => (List.mem_erase_of_ne (fun (e : x = a) => h'.1 (e ▸ hx))).mpr (s x (List.mem_cons_of_mem _ hx))
    rw [List.length_erase_of_mem hm] at q
    have : 0 < m.length := List.length_pos_of_mem hm
    show l.length + 1 ≤ m.length
    omega
theorem nodup_len {α : Type} [DecidableEq α] {l m : List α} (h1 : l.Nodup) (h2 : m.Nodup) (h : ∀ x, x ∈ l ↔ x ∈ m) : l.length = m.length :=
  Nat.le_antisymm (nodup_le h1 fun x hx => (h x).mp hx) (nodup_le h2 fun x hx => (h x).mpr hx)
/-! ### with axioms -/
/-- whether some kept type has the one concept and not the other -/
def told (at_ : List C) (P : Nat → Bool) (c d : C) : Bool := (kept at_ P).any fun t => holds at_ t c && !holds at_ t d
theorem told_iff {at_ : List C} {P : Nat → Bool} {c d : C} : told at_ P c d = true ↔ ∃ t ∈ kept at_ P, holds at_ t c = true ∧ holds at_ t d = false := by
  unfold told
  rw [List.any_eq_true]
  constructor
  · rintro ⟨t, ht, q⟩
    rw [Bool.and_eq_true] at q
    exact ⟨t, ht, q.1, by simpa using q.2⟩
  · rintro ⟨t, ht, q1, q2⟩
    exact ⟨t, ht, by rw [q1, q2]; rfl⟩
def CovAx (at_ : List C) (ax : List Axiom) : Prop := ∀ a ∈ ax, Cov at_ a.1 ∧ Cov at_ a.2
theorem keeps_iff {at_ : List C} {ax : List Axiom} {t : Nat} : keeps at_ ax t = true ↔ ∀ a ∈ ax, holds at_ t a.1 = true → holds at_ t a.2 = true := by
  unfold keeps
  rw [List.all_eq_true]
  constructor
  · intro h a ha q
    have := h a ha
    rw [q] at this
    simpa using this
  · intro h a ha
    cases e : holds at_ t a.1 with
    | false => rfl
    | true => rw [h a ha e]; rfl
theorem told_ax_of {a1 a2 : List C} {ax : List Axiom} {c d : C} (h1 : Closed a1) (h2 : Closed a2) (x1 : CovAx a1 ax) (x2 : CovAx a2 ax) (c1 : Cov a1 c) (c2 : Cov a2 c) (d1 : Cov a1 d) (d2 : Cov a2 d)
    (h : told a1 (keeps a1 ax) c d = true) : told a2 (keeps a2 ax) c d = true := by
  obtain ⟨t, ht, hc, hd⟩ := told_iff.mp h
  have tr := canon_sat (ok := fun _ => true) h1 (l := kept a1 (keeps a1 ax)) kept_fix (fun _ _ _ _ _ q => by cases q) (fun _ _ _ _ _ q => by cases q)
  refine told_iff.mpr ⟨_, kept_of_model h2 (M := canon a1 (kept a1 (keeps a1 ax)) fun _ => true) (fun x hx => ?_) t ht, ?_, ?_⟩
  · rw [keeps_iff]
    intro a ha
    rw [holds_typ (x2 a ha).1, holds_typ (x2 a ha).2, tr _ (x1 a ha).1 x hx, tr _ (x1 a ha).2 x hx]
    exact keeps_iff.mp (kept_P (show x ∈ kept a1 (keeps a1 ax) from hx)).2 a ha
  · rw [holds_typ c2, tr c c1 t ht]; exact hc
  · rw [holds_typ d2, tr d d1 t ht]; exact hd
theorem under_told {ax : List Axiom} {c d : C} : Oc.under ax c d = !told (atomsFor ax [.and c (.not d)]) (keeps (atomsFor ax [.and c (.not d)]) ax) c d := rfl
theorem cov_for {ax : List Axiom} {c d : C} : Cov (atomsFor ax [.and c (.not d)]) c ∧ Cov (atomsFor ax [.and c (.not d)]) d := by
  have q : Cov (atomsFor ax [.and c (.not d)]) (.and c (.not d)) := cov_atomsOf (List.mem_append_right _ (List.mem_singleton.mpr rfl))
  exact ⟨fun b hb => q b (List.mem_append_left _ hb), fun b hb => q b (List.mem_append_right _ hb)⟩
theorem covAx_for {ax : List Axiom} {l : List C} : CovAx (atomsFor ax l) ax := fun a ha =>
  ⟨cov_atomsOf (List.mem_append_left _ (List.mem_flatMap.mpr ⟨a, ha, by simp⟩)), cov_atomsOf (List.mem_append_left _ (List.mem_flatMap.mpr ⟨a, ha, by simp⟩))⟩
/-- THE LAW of subsumption: over any closed list of atoms -/
theorem under_law {at_ : List C} {ax : List Axiom} {c d : C} (hc : Closed at_) (hx : CovAx at_ ax) (h1 : Cov at_ c) (h2 : Cov at_ d) : (!told at_ (keeps at_ ax) c d) = Oc.under ax c d := by
  rw [under_told]
  congr 1
  have cf : Closed (atomsFor ax [.and c (.not d)]) := closed_atomsOf _
  exact Bool.eq_iff_iff.mpr ⟨told_ax_of hc cf hx covAx_for h1 cov_for.1 h2 cov_for.2, told_ax_of cf hc covAx_for hx cov_for.1 h1 cov_for.2 h2⟩
/-! ### local axioms -/
def freeA (w : Oc06.Words) : C → Bool
  | .name a => Oc06.has w.names a
  | .some r _ => Oc06.has w.roles r
  | .all r _ => Oc06.has w.roles r
  | _ => false
def isAll : C → Bool
  | .all _ _ => true
  | _ => false
/-- what is outside the signature is as if it were empty -/
def inSig (w : Oc06.Words) (at_ : List C) (t : Nat) : Bool := (List.range at_.length).all fun k => match at_[k]? with
  | some a => freeA w a || (bit t k == isAll a)
  | none => true
theorem inSig_iff {w : Oc06.Words} {at_ : List C} {t : Nat} : inSig w at_ t = true ↔ ∀ (k : Nat) (a : C), at_[k]? = some a → freeA w a = false → bit t k = isAll a := by
  unfold inSig
  rw [List.all_eq_true]
  constructor
  · intro h k a e f
    have hk : k < at_.length := (List.getElem?_eq_some_iff.mp e).1
    have q := h k (List.mem_range.mpr hk)
    rw [e] at q
    dsimp only at q
    rw [f] at q
    simpa using q
  · intro h k hk
    have hk' := List.mem_range.mp hk
    rw [List.getElem?_eq_getElem hk']
    dsimp only
    cases f : freeA w at_[k] with
    | true => rfl
    | false =>
      rw [h k at_[k] (List.getElem?_eq_getElem hk') f]
      simp
def res (M : Mdl) (w : Oc06.Words) : Mdl where
  dom := M.dom
  nm x a := Oc06.has w.names a && M.nm x a
  rl r x y := Oc06.has w.roles r && M.rl r x y
theorem sat_res {M : Mdl} {w : Oc06.Words} : ∀ (c : C) (x : Nat), sat (res M w) c x = sat M (Oc06.emptied w c) x
  | .top, _ => rfl
  | .bot, _ => rfl
  | .name a, x => by
    show (Oc06.has w.names a && M.nm x a) = sat M (if Oc06.has w.names a = true then .name a else .bot) x
    cases Oc06.has w.names a <;> rfl
  | .and c d, x => by
    show (sat _ c x && sat _ d x) = (sat M _ x && sat M _ x)
    rw [sat_res c, sat_res d]
  | .or c d, x => by
    show (sat _ c x || sat _ d x) = (sat M _ x || sat M _ x)
    rw [sat_res c, sat_res d]
  | .not c, x => by
    show (!sat _ c x) = !sat M _ x
    rw [sat_res c]
  | .some r c, x => by
    show (M.dom.any fun y => (Oc06.has w.roles r && M.rl r x y) && sat (res M w) c y) = sat M (if Oc06.has w.roles r = true then .some r (Oc06.emptied w c) else .bot) x
    cases Oc06.has w.roles r with
    | false => simp [sat]
    | true =>
      simp only [Bool.true_and, if_true]
      show _ = M.dom.any fun y => M.rl r x y && sat M (Oc06.emptied w c) y
      congr 1
      funext y
      rw [sat_res c]
  | .all r c, x => by
    show (M.dom.all fun y => !(Oc06.has w.roles r && M.rl r x y) || sat (res M w) c y) = sat M (if Oc06.has w.roles r = true then .all r (Oc06.emptied w c) else .top) x
    cases Oc06.has w.roles r with
    | false => simp [sat]
    | true =>
      simp only [Bool.true_and, if_true]
      show _ = M.dom.all fun y => !M.rl r x y || sat M (Oc06.emptied w c) y
      congr 1
      funext y
      rw [sat_res c]
theorem any_congr_mem {α : Type} {l : List α} {p q : α → Bool} (h : ∀ x ∈ l, p x = q x) : l.any p = l.any q := by
  induction l with
  | nil => rfl
  | cons a r ih => rw [List.any_cons, List.any_cons, h a List.mem_cons_self, ih fun x hx => h x (List.mem_cons_of_mem _ hx)]
theorem all_congr_mem {α : Type} {l : List α} {p q : α → Bool} (h : ∀ x ∈ l, p x = q x) : l.all p = l.all q := by
  induction l with
  | nil => rfl
  | cons a r ih => rw [List.all_cons, List.all_cons, h a List.mem_cons_self, ih fun x hx => h x (List.mem_cons_of_mem _ hx)]
theorem sat_emptied {M : Mdl} {w : Oc06.Words} (hN : ∀ x ∈ M.dom, ∀ a, Oc06.has w.names a = false → M.nm x a = false) (hR : ∀ r x y, Oc06.has w.roles r = false → M.rl r x y = false) :
    ∀ (c : C), ∀ x ∈ M.dom, sat M (Oc06.emptied w c) x = sat M c x
  | .top, _, _ => rfl
  | .bot, _, _ => rfl
  | .name a, x, hx => by
    show sat M (if Oc06.has w.names a = true then .name a else .bot) x = M.nm x a
    cases e : Oc06.has w.names a with
    | true => rfl
    | false => rw [hN x hx a e]; rfl
  | .and c d, x, hx => by
    show (sat M _ x && sat M _ x) = (sat _ c x && sat _ d x)
    rw [sat_emptied hN hR c x hx, sat_emptied hN hR d x hx]
  | .or c d, x, hx => by
    show (sat M _ x || sat M _ x) = (sat _ c x || sat _ d x)
    rw [sat_emptied hN hR c x hx, sat_emptied hN hR d x hx]
  | .not c, x, hx => by
    show (!sat M _ x) = !sat _ c x
    rw [sat_emptied hN hR c x hx]
  | .some r c, x, hx => by
    show sat M (if Oc06.has w.roles r = true then .some r (Oc06.emptied w c) else .bot) x = M.dom.any fun y => M.rl r x y && sat M c y
    cases e : Oc06.has w.roles r with
    | true =>
      show (M.dom.any fun y => M.rl r x y && sat M (Oc06.emptied w c) y) = _
      exact any_congr_mem fun y hy => by rw [sat_emptied hN hR c y hy]
    | false =>
      show false = _
      refine (List.any_eq_false.mpr fun y _ => ?_).symm
      rw [hR r x y e]; simp
  | .all r c, x, hx => by
    show sat M (if Oc06.has w.roles r = true then .all r (Oc06.emptied w c) else .top) x = M.dom.all fun y => !M.rl r x y || sat M c y
    cases e : Oc06.has w.roles r with
    | true =>
      show (M.dom.all fun y => !M.rl r x y || sat M (Oc06.emptied w c) y) = _
      exact all_congr_mem fun y hy => by rw [sat_emptied hN hR c y hy]
    | false =>
      show true = _
      refine (List.all_eq_true.mpr fun y _ => ?_).symm
      rw [hR r x y e]; rfl
/-- THE LAW of local axioms -/
theorem quiet_law {at_ : List C} {w : Oc06.Words} {c d : C} (hc : Closed at_) (hi : ∀ a ∈ at_, isAt a = true) (h1 : Cov at_ c) (h2 : Cov at_ d) : (!told at_ (inSig w at_) c d) = Oc06.quiet w (c, d) := by
  show _ = Oc.under [] (Oc06.emptied w c) (Oc06.emptied w d)
  rw [under_told]
  congr 1
  have cf : Closed (atomsFor [] [.and (Oc06.emptied w c) (.not (Oc06.emptied w d))]) := closed_atomsOf _
  have ce := cov_for (ax := []) (c := Oc06.emptied w c) (d := Oc06.emptied w d)
  refine Bool.eq_iff_iff.mpr ⟨fun h => ?_, fun h => ?_⟩
  · obtain ⟨t, ht, hc', hd'⟩ := told_iff.mp h
    have out : ∀ u ∈ kept at_ (inSig w at_), ∀ a ∈ at_, isAt a = true → freeA w a = false → holds at_ u a = isAll a := fun u hu a ha hi hf => by
      obtain ⟨k, e1, e2⟩ := idx_of_mem ha
      rw [holds_atom e1 hi]
      exact inSig_iff.mp (kept_P hu).2 k a e2 hf
    have tr := canon_sat (ok := Oc06.has w.roles) hc (l := kept at_ (inSig w at_)) kept_fix (fun u hu r c hm q => out u hu _ hm rfl q) (fun u hu r c hm q => out u hu _ hm rfl q)
    have em := sat_emptied (M := canon at_ (kept at_ (inSig w at_)) (Oc06.has w.roles)) (w := w) (fun x hx a q => by
        show holds at_ x (.name a) = false
        by_cases hm : C.name a ∈ at_
        · exact out x hx _ hm rfl q
        · have : at_.idxOf? (.name a) = none := List.idxOf?_eq_none_iff.mpr hm
          unfold holds
          rw [this]) (fun r x y q => by
        show (Oc06.has w.roles r && _) = false
        rw [q]; rfl)
    refine told_iff.mpr ⟨_, kept_of_model cf (M := canon at_ (kept at_ (inSig w at_)) (Oc06.has w.roles)) (fun x hx => rfl) t ht, ?_, ?_⟩
    · rw [holds_typ ce.1, em c t ht, tr c h1 t ht]; exact hc'
    · rw [holds_typ ce.2, em d t ht, tr d h2 t ht]; exact hd'
  · generalize ha : atomsFor [] [.and (Oc06.emptied w c) (.not (Oc06.emptied w d))] = a2 at *
    obtain ⟨t, ht, hc', hd'⟩ := told_iff.mp h
    have tr := canon_sat (ok := fun _ => true) cf (l := kept a2 (keeps a2 [])) kept_fix (fun _ _ _ _ _ q => by cases q) (fun _ _ _ _ _ q => by cases q)
    refine told_iff.mpr ⟨_, kept_of_model hc (M := res (canon a2 (kept a2 (keeps a2 [])) fun _ => true) w) (fun x hx => ?_) t ht, ?_, ?_⟩
    · rw [inSig_iff]
      intro k a e f
      rw [bit_typ e]
      cases a with
      | name b =>
        show (Oc06.has w.names b && _) = false
        have f' : Oc06.has w.names b = false := f
        rw [f']; rfl
      | some r c =>
        show (List.any _ fun y => (Oc06.has w.roles r && _) && _) = false
        have f' : Oc06.has w.roles r = false := f
        rw [f']
        exact List.any_eq_false.mpr fun y _ => by simp
      | all r c =>
        show (List.all _ fun y => !(Oc06.has w.roles r && _) || _) = true
        have f' : Oc06.has w.roles r = false := f
        rw [f']
        exact List.all_eq_true.mpr fun y _ => by simp
      | _ => exact absurd (hi _ (List.mem_of_getElem? e)) (by simp [isAt])
    · rw [holds_typ h1, sat_res, tr _ ce.1 t ht]; exact hc'
    · rw [holds_typ h2, sat_res, tr _ ce.2 t ht]; exact hd'
end Ax

namespace Ax
open Oc
/-! ### reading: fuel does not matter; what was read is the concept's own numbers -/
def enc : C → List Nat
  | .top => [0]
  | .bot => [1]
  | .name a => [2, a]
  | .and c d => 3 :: (enc c ++ enc d)
  | .or c d => 4 :: (enc c ++ enc d)
  | .not c => 5 :: enc c
  | .some r c => 6 :: r :: enc c
  | .all r c => 7 :: r :: enc c
def kindOf : C → Nat
  | .top => 0 | .bot => 1 | .name _ => 2 | .and _ _ => 3 | .or _ _ => 4 | .not _ => 5 | .some _ _ => 6 | .all _ _ => 7
def numOf : C → Nat
  | .name a => a | .some r _ => r | .all r _ => r | _ => 0
def parts : C → List C
  | .and c d => [c, d] | .or c d => [c, d] | .not c => [c] | .some _ c => [c] | .all _ c => [c] | _ => []
def mkC (k n : Nat) (cs : List C) : C := match k, cs with
  | 0, _ => .top
  | 1, _ => .bot
  | 2, _ => .name n
  | 3, [c, d] => .and c d
  | 4, [c, d] => .or c d
  | 5, [c] => .not c
  | 6, [c] => .some n c
  | 7, [c] => .all n c
  | _, _ => .top
def many (k : Nat) : Nat := if k = 3 ∨ k = 4 then 2 else if k = 5 ∨ k = 6 ∨ k = 7 then 1 else 0
def hdr : List Nat → Option (Nat × Nat × List Nat)
  | [] => none
  | k :: r => if k < 8 then (if k = 2 then (match r with
      | a :: r' => if a < 4 then some (k, a, r') else none
      | [] => none) else if k = 6 ∨ k = 7 then (match r with
      | a :: r' => if a < 2 then some (k, a, r') else none
      | [] => none) else some (k, 0, r)) else none
theorem hdr_len {l : List Nat} {k n : Nat} {r : List Nat} (h : hdr l = some (k, n, r)) : r.length < l.length := by
  unfold hdr at h
  split at h
  · cases h
  · split at h
    · split at h
      · split at h
        · split at h
          · cases h; simp; omega
          · cases h
        · cases h
      · split at h
        · split at h
          · split at h
            · cases h; simp; omega
            · cases h
          · cases h
        · cases h; simp
    · cases h
def consC (c : C) (x : List C × List Nat) : List C × List Nat := (c :: x.1, x.2)
def mkP (k m : Nat) (x : List C × List Nat) : C × List Nat := (mkC k m x.1, x.2)
def snocC (cs : List C) (x : C × List Nat) : List C × List Nat := (cs ++ [x.1], x.2)
/-- so many concepts, one behind another, each by a reader -/
def seqR (f : List Nat → Option (C × List Nat)) : Nat → List Nat → Option (List C × List Nat)
  | 0, l => some ([], l)
  | k + 1, l => match f l with
    | none => none
    | some (c, r) => (seqR f k r).map (consC c)
theorem read_eq (n : Nat) (l : List Nat) : Oc.read (n + 1) l = match hdr l with
    | none => none
    | some (k, m, r) => (seqR (Oc.read n) (many k) r).map (mkP k m) := by
  match l with
  | [] => rfl
  | 0 :: r => rfl
  | 1 :: r => rfl
  | [2] => rfl
  | 2 :: a :: r =>
    show (if a < 4 then some (C.name a, r) else none) = match (if a < 4 then some (2, a, r) else none) with | none => none | some (k, m, r) => _
    split <;> rfl
  | 3 :: r =>
    show (match Oc.read n r with | none => none | some (x : C × List Nat) => (Oc.read n x.2).map fun (y : C × List Nat) => (C.and x.1 y.1, y.2)) = (match Oc.read n r with | none => none | some (c, r) => (match Oc.read n r with | none => none | some (c, r) => (some ([], r)).map (consC c)).map (consC c)).map (mkP 3 0)
    cases Oc.read n r with
    | none => rfl
    | some x =>
      obtain ⟨c, t⟩ := x
      dsimp only
      cases Oc.read n t with
      | none => rfl
      | some y => rfl
  | 4 :: r =>
    show (match Oc.read n r with | none => none | some (x : C × List Nat) => (Oc.read n x.2).map fun (y : C × List Nat) => (C.or x.1 y.1, y.2)) = (match Oc.read n r with | none => none | some (c, r) => (match Oc.read n r with | none => none | some (c, r) => (some ([], r)).map (consC c)).map (consC c)).map (mkP 4 0)
    cases Oc.read n r with
    | none => rfl
    | some x =>
      obtain ⟨c, t⟩ := x
      dsimp only
      cases Oc.read n t with
      | none => rfl
      | some y => rfl
  | 5 :: r =>
    show (Oc.read n r).map (fun (x : C × List Nat) => (C.not x.1, x.2)) = (match Oc.read n r with | none => none | some (c, r) => (some ([], r)).map (consC c)).map (mkP 5 0)
    cases Oc.read n r <;> rfl
  | [6] => rfl
  | 6 :: k :: r =>
    show (if k < 2 then (Oc.read n r).map (fun (x : C × List Nat) => (C.some k x.1, x.2)) else none) = match (if k < 2 then some (6, k, r) else none) with | none => none | some (k, m, r) => _
    split
    · show _ = (match Oc.read n r with | none => none | some (c, r) => (some ([], r)).map (consC c)).map (mkP 6 k)
      cases Oc.read n r <;> rfl
    · rfl
  | [7] => rfl
  | 7 :: k :: r =>
    show (if k < 2 then (Oc.read n r).map (fun (x : C × List Nat) => (C.all k x.1, x.2)) else none) = match (if k < 2 then some (7, k, r) else none) with | none => none | some (k, m, r) => _
    split
    · show _ = (match Oc.read n r with | none => none | some (c, r) => (some ([], r)).map (consC c)).map (mkP 7 k)
      cases Oc.read n r <;> rfl
    · rfl
  | (k + 8) :: r =>
    have e : hdr ((k + 8) :: r) = none := by
      unfold hdr
      dsimp only
      rw [if_neg (by omega)]
    rw [e]
    rfl
theorem seqR_congr {f g : List Nat → Option (C × List Nat)} {N : Nat} (h : ∀ l, l.length < N → f l = g l) (hl : ∀ l c r, f l = some (c, r) → r.length < l.length) : ∀ (k : Nat) (l : List Nat), l.length < N → seqR f k l = seqR g k l
  | 0, _, _ => rfl
  | k + 1, l, hN => by
    unfold seqR
    rw [← h l hN]
    cases e : f l with
    | none => rfl
    | some x =>
      obtain ⟨c, r⟩ := x
      dsimp only
      rw [seqR_congr h hl k r (Nat.lt_trans (hl l c r e) hN)]
theorem seqR_len {f : List Nat → Option (C × List Nat)} (hl : ∀ l c r, f l = some (c, r) → r.length < l.length) : ∀ (k : Nat) (l : List Nat) (cs : List C) (r : List Nat), seqR f k l = some (cs, r) → r.length ≤ l.length
  | 0, l, cs, r, h => by
    have h : some (([] : List C), l) = some (cs, r) := h
    cases h; exact Nat.le_refl _
  | k + 1, l, cs, r, h => by
    unfold seqR at h
    split at h
    · cases h
    · rename_i c t e
      cases e2 : seqR f k t with
      | none => rw [e2] at h; cases h
      | some x =>
        rw [e2] at h
        obtain ⟨cs', r'⟩ := x
        cases h
        have h1 := hl l c t e
        have h2 := seqR_len hl k t cs' r' e2
        show r'.length ≤ l.length
        omega
theorem read_len : ∀ (n : Nat) (l : List Nat) (c : C) (r : List Nat), Oc.read n l = some (c, r) → r.length < l.length
  | 0, _, _, _, h => by cases h
  | n + 1, l, c, r, h => by
    rw [read_eq] at h
    split at h
    · cases h
    · rename_i k m t e
      cases e2 : seqR (Oc.read n) (many k) t with
      | none => rw [e2] at h; cases h
      | some x =>
        rw [e2] at h
        obtain ⟨cs, r'⟩ := x
        cases h
        have h1 := hdr_len e
        have h2 := seqR_len (read_len n) _ _ _ _ e2
        show r'.length < l.length
        omega
theorem read_fuel : ∀ (n m : Nat) (l : List Nat), l.length < n → l.length < m → Oc.read n l = Oc.read m l
  | 0, _, _, h, _ => absurd h (Nat.not_lt_zero _)
  | _, 0, _, _, h => absurd h (Nat.not_lt_zero _)
  | n + 1, m + 1, l, h1, h2 => by
    rw [read_eq, read_eq]
    cases e : hdr l with
    | none => rfl
    | some x =>
      obtain ⟨k, a, r⟩ := x
      dsimp only
      have hr := hdr_len e
      rw [seqR_congr (N := l.length) (fun t ht => read_fuel n m t (by omega) (by omega)) (read_len n) (many k) r hr]
/-- one concept at the beginning -/
def R (l : List Nat) : Option (C × List Nat) := Oc.read (l.length + 1) l
theorem R_of {n : Nat} {l : List Nat} (h : l.length < n) : Oc.read n l = R l := read_fuel _ _ _ h (Nat.lt_succ_self _)
abbrev Rs : Nat → List Nat → Option (List C × List Nat) := seqR R
theorem R_len {l : List Nat} {c : C} {r : List Nat} (h : R l = some (c, r)) : r.length < l.length := read_len _ _ _ _ h
theorem R_eq (l : List Nat) : R l = match hdr l with
    | none => none
    | some (k, m, r) => (Rs (many k) r).map (mkP k m) := by
  unfold R
  rw [read_eq]
  cases e : hdr l with
  | none => rfl
  | some x =>
    obtain ⟨k, a, r⟩ := x
    dsimp only
    have hr := hdr_len e
    rw [seqR_congr (g := R) (N := l.length) (fun t ht => R_of ht) (read_len _) (many k) r hr]
theorem Rs_len {k : Nat} {l : List Nat} {cs : List C} {r : List Nat} (h : Rs k l = some (cs, r)) : r.length ≤ l.length := seqR_len (fun _ _ _ => R_len) _ _ _ _ h
theorem Rs_count {f : List Nat → Option (C × List Nat)} : ∀ {k : Nat} {l : List Nat} {cs : List C} {r : List Nat}, seqR f k l = some (cs, r) → cs.length = k
  | 0, l, cs, r, h => by cases h; rfl
  | k + 1, l, cs, r, h => by
    unfold seqR at h
    split at h
    · cases h
    · rename_i c t e
      cases e2 : seqR f k t with
      | none => rw [e2] at h; cases h
      | some x =>
        rw [e2] at h
        obtain ⟨cs', r'⟩ := x
        cases h
        have := Rs_count e2
        show cs'.length + 1 = k + 1
        rw [this]
/-- one more -/
theorem Rs_snoc {f : List Nat → Option (C × List Nat)} : ∀ (k : Nat) (l : List Nat), seqR f (k + 1) l = match seqR f k l with
    | none => none
    | some (cs, r) => (f r).map (snocC cs)
  | 0, l => by
    show (match f l with | none => none | some (c, r) => (some ([], r)).map (consC c)) = (f l).map (snocC [])
    cases f l <;> rfl
  | k + 1, l => by
    show (match f l with | none => none | some (c, r) => (seqR f (k + 1) r).map (consC c)) = match (match f l with | none => none | some (c, r) => (seqR f k r).map (consC c)) with | none => none | some (cs, r) => (f r).map (snocC cs)
    cases f l with
    | none => rfl
    | some y =>
      obtain ⟨c, r⟩ := y
      dsimp only
      rw [Rs_snoc k r]
      cases seqR f k r with
      | none => rfl
      | some z =>
        obtain ⟨cs, t⟩ := z
        show ((f t).map (snocC cs)).map (consC c) = (f t).map (snocC (c :: cs))
        cases f t <;> rfl
theorem two_eq (l : List Nat) : Oc.two l = match Rs 2 l with
    | some ([c, d], []) => some (c, d)
    | _ => none := by
  unfold Oc.two Oc.concept
  rw [R_of (Nat.lt_succ_self _)]
  show _ = match (match R l with | none => none | some (c, r) => (match R r with | none => none | some (c, r) => (some ([], r)).map (consC c)).map (consC c)) with | some ([c, d], []) => some (c, d) | _ => none
  cases R l with
  | none => rfl
  | some x =>
    obtain ⟨c, r⟩ := x
    dsimp only
    rw [R_of (Nat.lt_succ_self _)]
    cases R r with
    | none => rfl
    | some y =>
      obtain ⟨d, t⟩ := y
      cases t <;> rfl
theorem concept_eq (l : List Nat) : Oc.concept l = match Rs 1 l with
    | some ([c], []) => some c
    | _ => none := by
  unfold Oc.concept
  rw [R_of (Nat.lt_succ_self _)]
  show _ = match (match R l with | none => none | some (c, r) => (some ([], r)).map (consC c)) with | some ([c], []) => some c | _ => none
  cases R l with
  | none => rfl
  | some x =>
    obtain ⟨c, r⟩ := x
    cases r <;> rfl
/-! ### what is read -/
/-- names and roles as the document has them -/
def okC : C → Bool
  | .name a => decide (a < 4)
  | .and c d => okC c && okC d
  | .or c d => okC c && okC d
  | .not c => okC c
  | .some r c => decide (r < 2) && okC c
  | .all r c => decide (r < 2) && okC c
  | _ => true
theorem encs_of {f : List Nat → Option (C × List Nat)} {N : Nat} (h : ∀ l c r, l.length < N → f l = some (c, r) → l = enc c ++ r ∧ okC c = true) (hl : ∀ l c r, f l = some (c, r) → r.length < l.length) :
    ∀ (k : Nat) (l : List Nat) (cs : List C) (r : List Nat), l.length < N → seqR f k l = some (cs, r) → l = cs.flatMap enc ++ r ∧ ∀ c ∈ cs, okC c = true
  | 0, l, cs, r, _, e => by cases e; exact ⟨rfl, fun c hc => absurd hc (by simp)⟩
  | k + 1, l, cs, r, hN, e => by
    unfold seqR at e
    split at e
    · cases e
    · rename_i c t e1
      cases e2 : seqR f k t with
      | none => rw [e2] at e; cases e
      | some x =>
        rw [e2] at e
        obtain ⟨cs', r'⟩ := x
        cases e
        obtain ⟨h1, h2⟩ := h l c t hN e1
        obtain ⟨h3, h4⟩ := encs_of h hl k t cs' r' (Nat.lt_trans (hl l c t e1) hN) e2
        refine ⟨?_, fun x hx => ?_⟩
        · show l = (c :: cs').flatMap enc ++ r'
          rw [h1, h3, List.flatMap_cons, List.append_assoc]
        · rcases List.mem_cons.mp hx with q | q
          · rw [q]; exact h2
          · exact h4 x q
theorem hdr_cases {l : List Nat} {k n : Nat} {r : List Nat} (h : hdr l = some (k, n, r)) :
    (k = 2 ∧ n < 4 ∧ l = 2 :: n :: r) ∨ ((k = 6 ∨ k = 7) ∧ n < 2 ∧ l = k :: n :: r) ∨ (n = 0 ∧ l = k :: r ∧ (k = 0 ∨ k = 1 ∨ k = 3 ∨ k = 4 ∨ k = 5)) := by
  unfold hdr at h
  split at h
  · cases h
  · rename_i k' t
    split at h
    · split at h
      · rename_i hk
        split at h
        · split at h
          · cases h; exact .inl ⟨hk, by assumption, by rw [hk]⟩
          · cases h
        · cases h
      · split at h
        · rename_i hk
          split at h
          · split at h
            · cases h; exact .inr (.inl ⟨hk, by assumption, rfl⟩)
            · cases h
          · cases h
        · cases h; exact .inr (.inr ⟨rfl, rfl, by omega⟩)
    · cases h
theorem R_enc : ∀ (N : Nat) (l : List Nat) (c : C) (r : List Nat), l.length < N → R l = some (c, r) → l = enc c ++ r ∧ okC c = true
  | 0, _, _, _, h, _ => absurd h (Nat.not_lt_zero _)
  | N + 1, l, c, r, h, e => by
    rw [R_eq] at e
    split at e
    · cases e
    · rename_i k m t eh
      cases e2 : Rs (many k) t with
      | none => rw [e2] at e; cases e
      | some x =>
        rw [e2] at e
        obtain ⟨cs, r'⟩ := x
        cases e
        have hl := hdr_len eh
        obtain ⟨h1, h2⟩ := encs_of (f := R) (N := N) (R_enc N) (fun _ _ _ => R_len) _ t cs r' (by omega) e2
        have hc := Rs_count e2
        rcases hdr_cases eh with ⟨rfl, hn, rfl⟩ | ⟨hk, hn, rfl⟩ | ⟨rfl, rfl, hk⟩
        · have : cs = [] := List.length_eq_zero_iff.mp hc
          subst this
          exact ⟨by rw [h1]; rfl, decide_eq_true hn⟩
        · rcases hk with rfl | rfl
          · match cs, hc with
            | [c], _ =>
              refine ⟨by rw [h1]; simp [mkP, mkC, enc], ?_⟩
              show (decide (m < 2) && okC c) = true
              rw [decide_eq_true hn, h2 c (by simp)]; rfl
          · match cs, hc with
            | [c], _ =>
              refine ⟨by rw [h1]; simp [mkP, mkC, enc], ?_⟩
              show (decide (m < 2) && okC c) = true
              rw [decide_eq_true hn, h2 c (by simp)]; rfl
        · rcases hk with rfl | rfl | rfl | rfl | rfl
          · have : cs = [] := List.length_eq_zero_iff.mp hc
            subst this
            exact ⟨by rw [h1]; rfl, rfl⟩
          · have : cs = [] := List.length_eq_zero_iff.mp hc
            subst this
            exact ⟨by rw [h1]; rfl, rfl⟩
          · match cs, hc with
            | [c, d], _ =>
              refine ⟨by rw [h1]; simp [mkP, mkC, enc], ?_⟩
              show (okC c && okC d) = true
              rw [h2 c (by simp), h2 d (by simp)]; rfl
          · match cs, hc with
            | [c, d], _ =>
              refine ⟨by rw [h1]; simp [mkP, mkC, enc], ?_⟩
              show (okC c && okC d) = true
              rw [h2 c (by simp), h2 d (by simp)]; rfl
          · match cs, hc with
            | [c], _ => exact ⟨by rw [h1]; simp [mkP, mkC, enc], h2 c (by simp)⟩
theorem R_is {l : List Nat} {c : C} {r : List Nat} (h : R l = some (c, r)) : l = enc c ++ r ∧ okC c = true := R_enc _ l c r (Nat.lt_succ_self _) h
theorem Rs_is {k : Nat} {l : List Nat} {cs : List C} {r : List Nat} (h : Rs k l = some (cs, r)) : l = cs.flatMap enc ++ r ∧ ∀ c ∈ cs, okC c = true := encs_of (N := l.length + 1) (fun _ _ _ _ e => R_is e) (fun _ _ _ => R_len) k l cs r (Nat.lt_succ_self _) h
/-- the numbers tell the concept -/
theorem enc_app : ∀ (c d : C) (r t : List Nat), enc c ++ r = enc d ++ t → c = d ∧ r = t
  | .top, d, r, t, h => by cases d <;> simp [enc] at h ⊢; exact h
  | .bot, d, r, t, h => by cases d <;> simp [enc] at h ⊢; exact h
  | .name a, d, r, t, h => by cases d <;> simp [enc] at h ⊢; exact h
  | .and c c', d, r, t, h => by
    cases d with
    | and e e' =>
      simp only [enc, List.cons_append, List.append_assoc, List.cons.injEq, true_and] at h
      obtain ⟨h1, h2⟩ := enc_app c e _ _ h
      obtain ⟨h3, h4⟩ := enc_app c' e' _ _ h2
      rw [h1, h3, h4]; exact ⟨rfl, rfl⟩
    | _ => simp [enc] at h
  | .or c c', d, r, t, h => by
    cases d with
    | or e e' =>
      simp only [enc, List.cons_append, List.append_assoc, List.cons.injEq, true_and] at h
      obtain ⟨h1, h2⟩ := enc_app c e _ _ h
      obtain ⟨h3, h4⟩ := enc_app c' e' _ _ h2
      rw [h1, h3, h4]; exact ⟨rfl, rfl⟩
    | _ => simp [enc] at h
  | .not c, d, r, t, h => by
    cases d with
    | not e =>
      simp only [enc, List.cons_append, List.cons.injEq, true_and] at h
      obtain ⟨h1, h2⟩ := enc_app c e _ _ h
      rw [h1, h2]; exact ⟨rfl, rfl⟩
    | _ => simp [enc] at h
  | .some a c, d, r, t, h => by
    cases d with
    | some b e =>
      simp only [enc, List.cons_append, List.cons.injEq, true_and] at h
      obtain ⟨h1, h2⟩ := enc_app c e _ _ h.2
      rw [h1, h2, h.1]; exact ⟨rfl, rfl⟩
    | _ => simp [enc] at h
  | .all a c, d, r, t, h => by
    cases d with
    | all b e =>
      simp only [enc, List.cons_append, List.cons.injEq, true_and] at h
      obtain ⟨h1, h2⟩ := enc_app c e _ _ h.2
      rw [h1, h2, h.1]; exact ⟨rfl, rfl⟩
    | _ => simp [enc] at h
theorem enc_inj {c d : C} (h : enc c = enc d) : c = d := (enc_app c d [] [] (by rw [h])).1
theorem enc_pos (c : C) : 0 < (enc c).length := by cases c <;> simp [enc]
theorem enc_parts (c : C) : (enc c).length = (enc c).length - ((parts c).flatMap enc).length + ((parts c).flatMap enc).length ∧ ((parts c).flatMap enc).length < (enc c).length := by
  cases c <;> simp [enc, parts] <;> omega
theorem mkC_kind {k n : Nat} {cs : List C} (h : (k = 2 ∧ n < 4) ∨ ((k = 6 ∨ k = 7) ∧ n < 2) ∨ (n = 0 ∧ (k = 0 ∨ k = 1 ∨ k = 3 ∨ k = 4 ∨ k = 5))) (hc : cs.length = many k) : kindOf (mkC k n cs) = k ∧ numOf (mkC k n cs) = n ∧ parts (mkC k n cs) = cs := by
  rcases h with ⟨rfl, _⟩ | ⟨rfl | rfl, _⟩ | ⟨rfl, rfl | rfl | rfl | rfl | rfl⟩
  · have : cs = [] := List.length_eq_zero_iff.mp hc
    subst this; exact ⟨rfl, rfl, rfl⟩
  · match cs, hc with
    | [c], _ => exact ⟨rfl, rfl, rfl⟩
  · match cs, hc with
    | [c], _ => exact ⟨rfl, rfl, rfl⟩
  · have : cs = [] := List.length_eq_zero_iff.mp hc
    subst this; exact ⟨rfl, rfl, rfl⟩
  · have : cs = [] := List.length_eq_zero_iff.mp hc
    subst this; exact ⟨rfl, rfl, rfl⟩
  · match cs, hc with
    | [c, d], _ => exact ⟨rfl, rfl, rfl⟩
  · match cs, hc with
    | [c, d], _ => exact ⟨rfl, rfl, rfl⟩
  · match cs, hc with
    | [c], _ => exact ⟨rfl, rfl, rfl⟩
end Ax

namespace Ax
open Oc
/-! ### all concepts in some concepts, as the program meets them -/
def subs : C → List C
  | .top => [.top]
  | .bot => [.bot]
  | .name a => [.name a]
  | .and c d => .and c d :: (subs d ++ subs c)
  | .or c d => .or c d :: (subs d ++ subs c)
  | .not c => .not c :: subs c
  | .some r c => .some r c :: subs c
  | .all r c => .all r c :: subs c
def allIn (cs : List C) : List C := cs.reverse.flatMap subs
theorem allIn_nil : allIn [] = [] := rfl
theorem allIn_append (a b : List C) : allIn (a ++ b) = allIn b ++ allIn a := by
  unfold allIn
  rw [List.reverse_append, List.flatMap_append]
theorem subs_eq (c : C) : subs c = c :: allIn (parts c) := by
  cases c <;> simp [subs, allIn, parts]
theorem allIn_snoc (l : List C) (c : C) : allIn (l ++ [c]) = c :: allIn (l ++ parts c) := by
  rw [allIn_append, allIn_append]
  show ([c].reverse.flatMap subs) ++ _ = _
  simp only [List.reverse_singleton, List.flatMap_cons, List.flatMap_nil, List.append_nil]
  rw [subs_eq]; rfl
/-- numbers in all -/
def szs (cs : List C) : Nat := (cs.flatMap enc).length
theorem szs_nil : szs [] = 0 := rfl
theorem szs_cons (c : C) (cs : List C) : szs (c :: cs) = (enc c).length + szs cs := by
  unfold szs; rw [List.flatMap_cons, List.length_append]
theorem szs_append (a b : List C) : szs (a ++ b) = szs a + szs b := by
  unfold szs; rw [List.flatMap_append, List.length_append]
theorem szs_parts (c : C) : szs (parts c) < (enc c).length := (enc_parts c).2
theorem szs_snoc (l : List C) (c : C) : szs (l ++ parts c) < szs (l ++ [c]) := by
  rw [szs_append, szs_append, szs_cons, szs_nil]
  have := szs_parts c
  omega
theorem subs_len : ∀ c : C, (subs c).length ≤ (enc c).length
  | .top => Nat.le_refl _
  | .bot => Nat.le_refl _
  | .name a => by simp [subs, enc]
  | .and c d => by
    have h1 := subs_len c
    have h2 := subs_len d
    simp only [subs, enc, List.length_cons, List.length_append]; omega
  | .or c d => by
    have h1 := subs_len c
    have h2 := subs_len d
    simp only [subs, enc, List.length_cons, List.length_append]; omega
  | .not c => by
    have h1 := subs_len c
    simp only [subs, enc, List.length_cons]; omega
  | .some r c => by
    have h1 := subs_len c
    simp only [subs, enc, List.length_cons]; omega
  | .all r c => by
    have h1 := subs_len c
    simp only [subs, enc, List.length_cons]; omega
theorem allIn_len : ∀ cs : List C, (allIn cs).length ≤ szs cs
  | [] => Nat.le_refl _
  | c :: cs => by
    have h := allIn_len cs
    have h1 := subs_len c
    rw [show c :: cs = [c] ++ cs from rfl, allIn_append, szs_append, List.length_append]
    have : (allIn [c]).length = (subs c).length := by simp [allIn]
    rw [this, szs_cons, szs_nil]; omega
theorem len_szs : ∀ cs : List C, cs.length ≤ szs cs
  | [] => Nat.le_refl _
  | c :: cs => by
    have h := len_szs cs
    have := enc_pos c
    rw [szs_cons, List.length_cons]; omega
/-- what stands in the concepts, with its own parts -/
theorem mem_subs_atoms : ∀ (c x : C), x ∈ c.atoms ↔ x ∈ (subs c).filter isAt
  | .top, x => by simp [C.atoms, subs, isAt]
  | .bot, x => by simp [C.atoms, subs, isAt]
  | .name a, x => by
    simp only [C.atoms, subs, List.filter_cons, isAt, List.filter_nil, if_true]
  | .and c d, x => by
    have h1 := mem_subs_atoms c x
    have h2 := mem_subs_atoms d x
    simp only [C.atoms, subs, List.mem_append, List.filter_cons, List.filter_append, isAt, h1, h2]
    simp [or_comm]
  | .or c d, x => by
    have h1 := mem_subs_atoms c x
    have h2 := mem_subs_atoms d x
    simp only [C.atoms, subs, List.mem_append, List.filter_cons, List.filter_append, isAt, h1, h2]
    simp [or_comm]
  | .not c, x => by
    have h1 := mem_subs_atoms c x
    simp only [C.atoms, subs, List.filter_cons, isAt, h1]
    simp
  | .some r c, x => by
    have h1 := mem_subs_atoms c x
    simp only [C.atoms, subs, List.filter_cons, isAt, List.mem_cons, h1, if_true]
  | .all r c, x => by
    have h1 := mem_subs_atoms c x
    simp only [C.atoms, subs, List.filter_cons, isAt, List.mem_cons, h1, if_true]
theorem mem_allIn {cs : List C} {x : C} : x ∈ allIn cs ↔ ∃ c ∈ cs, x ∈ subs c := by
  unfold allIn
  rw [List.mem_flatMap]
  simp
theorem mem_atoms_allIn {cs : List C} {x : C} : x ∈ (allIn cs).filter isAt ↔ ∃ c ∈ cs, x ∈ c.atoms := by
  rw [List.mem_filter, mem_allIn]
  constructor
  · rintro ⟨⟨c, hc, h⟩, ha⟩
    exact ⟨c, hc, (mem_subs_atoms c x).mpr (List.mem_filter.mpr ⟨h, ha⟩)⟩
  · rintro ⟨c, hc, h⟩
    have q := List.mem_filter.mp ((mem_subs_atoms c x).mp h)
    exact ⟨⟨c, hc, q.1⟩, q.2⟩
/-- the program's list of atoms -/
def atomsP (cs : List C) : List C := dist ((allIn cs).filter isAt) []
theorem mem_atomsP {cs : List C} {x : C} : x ∈ atomsP cs ↔ ∃ c ∈ cs, x ∈ c.atoms := by
  unfold atomsP
  rw [mem_dist, mem_atoms_allIn]
  simp
theorem nodup_atomsP (cs : List C) : (atomsP cs).Nodup := nodup_dist List.nodup_nil
theorem closed_atomsP (cs : List C) : Closed (atomsP cs) := closed_of fun _ => mem_atomsP
theorem cov_atomsP {cs : List C} {c : C} (h : c ∈ cs) : Cov (atomsP cs) c := fun _ hb => mem_atomsP.mpr ⟨c, h, hb⟩
theorem isAt_atomsP {cs : List C} : ∀ a ∈ atomsP cs, isAt a = true := fun a ha => by
  obtain ⟨c, _, h⟩ := mem_atomsP.mp ha
  exact atoms_isAt c h
theorem dist_len : ∀ (l m : List C), (dist l m).length ≤ l.length + m.length
  | [], m => by simp [dist]
  | a :: l, m => by
    show (dist l (if m.contains a = true then m else m ++ [a])).length ≤ _
    have h := dist_len l (if m.contains a = true then m else m ++ [a])
    split at h
    · rename_i q
      rw [if_pos q]
      rw [List.length_cons]; omega
    · rename_i q
      rw [if_neg q]
      rw [List.length_append, List.length_singleton] at h
      rw [List.length_cons]; omega
theorem atomsP_len (cs : List C) : (atomsP cs).length ≤ szs cs := by
  have h := dist_len ((allIn cs).filter isAt) []
  have h1 := List.length_filter_le isAt (allIn cs)
  have h2 := allIn_len cs
  unfold atomsP
  simp only [List.length_nil] at h
  omega
/-- as many as the specification's -/
theorem atomsP_count {cs l : List C} (h : ∀ x, (∃ c ∈ cs, x ∈ c.atoms) ↔ ∃ c ∈ l, x ∈ c.atoms) : (atomsP cs).length = (atomsOf l).length :=
  nodup_len (nodup_atomsP cs) (nodup_dist List.nodup_nil) fun x => by rw [mem_atomsP, mem_atomsOf]; exact h x
/-! ### sums of bits -/
theorem bit_eq (m k : Nat) : bit m k = m.testBit k := by
  unfold bit
  rw [Nat.testBit_eq_decide_div_mod_eq]
  by_cases h : m / 2 ^ k % 2 = 1 <;> simp [h]
theorem bitsOf_test (l : List Bool) (k : Nat) : (bitsOf l).testBit k = l[k]?.getD false := by rw [← bit_eq, bit_bitsOf]
theorem bitsOf_snoc (l : List Bool) (b : Bool) : bitsOf (l ++ [b]) = if b = true then bitsOf l ||| 2 ^ l.length else bitsOf l := by
  apply Nat.eq_of_testBit_eq
  intro k
  rw [bitsOf_test]
  cases b with
  | true =>
    rw [if_pos rfl, Nat.testBit_or, bitsOf_test, Nat.testBit_two_pow]
    by_cases h : k < l.length
    · rw [List.getElem?_append_left h]
      have : ¬ l.length = k := by omega
      simp [this]
    · by_cases e : k = l.length
      · subst e
        simp
      · have h1 : (l ++ [true])[k]? = none := List.getElem?_eq_none (by simp; omega)
        have h2 : l[k]? = none := List.getElem?_eq_none (by omega)
        have : ¬ l.length = k := by omega
        rw [h1, h2]; simp [this]
  | false =>
    rw [if_neg (by simp), bitsOf_test]
    by_cases h : k < l.length
    · rw [List.getElem?_append_left h]
    · by_cases e : k = l.length
      · subst e
        simp
      · have h1 : (l ++ [false])[k]? = none := List.getElem?_eq_none (by simp; omega)
        have h2 : l[k]? = none := List.getElem?_eq_none (by omega)
        rw [h1, h2]
def mask (at_ : List C) (f : C → Bool) : Nat := bitsOf (at_.map f)
theorem mask_test (at_ : List C) (f : C → Bool) (k : Nat) : (mask at_ f).testBit k = (at_[k]?.map f).getD false := by
  unfold mask; rw [bitsOf_test, List.getElem?_map]
theorem mask_at {at_ : List C} {f : C → Bool} {k : Nat} {a : C} (h : at_[k]? = some a) : (mask at_ f).testBit k = f a := by rw [mask_test, h]; rfl
theorem mask_lt (at_ : List C) (f : C → Bool) : mask at_ f < 2 ^ at_.length := by
  have h := bitsOf_lt (at_.map f)
  rw [List.length_map] at h
  exact h
theorem take_snoc {α : Type} {l : List α} {i : Nat} {x : α} (h : l[i]? = some x) : l.take (i + 1) = l.take i ++ [x] := by
  rw [List.take_add_one, h]; rfl
theorem mask_take {at_ : List C} {f : C → Bool} {i : Nat} {a : C} (h : at_[i]? = some a) : mask (at_.take (i + 1)) f = if f a = true then mask (at_.take i) f ||| 2 ^ i else mask (at_.take i) f := by
  unfold mask
  have hi : i < at_.length := (List.getElem?_eq_some_iff.mp h).1
  rw [take_snoc h, List.map_append, List.map_singleton, bitsOf_snoc, List.length_map, List.length_take, Nat.min_eq_left (Nat.le_of_lt hi)]
/-- the bit of an atom is what holds of it -/
theorem idx_nodup {at_ : List C} (nd : at_.Nodup) {k : Nat} {a : C} (h : at_[k]? = some a) : at_.idxOf? a = some k := by
  obtain ⟨j, h1, h2⟩ := idx_of_mem (List.mem_of_getElem? h)
  obtain ⟨hk, e1⟩ := List.getElem?_eq_some_iff.mp h
  obtain ⟨hj, e2⟩ := List.getElem?_eq_some_iff.mp h2
  have : j = k := (List.getElem_inj nd).mp (e2.trans e1.symm)
  rw [← this]; exact h1
theorem holds_bit {at_ : List C} (nd : at_.Nodup) {k t : Nat} {a : C} (h : at_[k]? = some a) (ha : isAt a = true) : holds at_ t a = t.testBit k := by
  rw [holds_atom (idx_nodup nd h) ha, bit_eq]
theorem and_self_iff {w x : Nat} : (x &&& w = w) ↔ ∀ k, w.testBit k = true → x.testBit k = true := by
  constructor
  · intro h k hk
    have := congrArg (fun n => Nat.testBit n k) h
    simp only [Nat.testBit_and, hk, Bool.and_true] at this
    exact this
  · intro h
    apply Nat.eq_of_testBit_eq
    intro k
    rw [Nat.testBit_and]
    cases e : w.testBit k with
    | false => simp
    | true => rw [h k e]; rfl
theorem and_zero_iff {b x : Nat} : (x &&& b = 0) ↔ ∀ k, b.testBit k = true → x.testBit k = false := by
  constructor
  · intro h k hk
    have := congrArg (fun n => Nat.testBit n k) h
    simp only [Nat.testBit_and, hk, Bool.and_true, Nat.zero_testBit] at this
    exact this
  · intro h
    apply Nat.eq_of_testBit_eq
    intro k
    rw [Nat.testBit_and, Nat.zero_testBit]
    cases e : b.testBit k with
    | false => simp
    | true => rw [h k e]; rfl
/-- which atoms' inner concepts an element has -/
def innerQ (at_ : List C) (t : Nat) : C → Bool
  | .some _ c => holds at_ t c
  | .all _ c => holds at_ t c
  | _ => false
def inner (at_ : List C) (t : Nat) : Nat := mask at_ (innerQ at_ t)
def kindRole (k r : Nat) (a : C) : Bool := kindOf a == k && numOf a == r
def wanted (at_ : List C) (t r : Nat) : Nat := t &&& mask at_ (kindRole 7 r)
/-- a & ~b -/
def butNot (a b : Nat) : Nat := a &&& (a ^^^ b)
theorem butNot_test (a b k : Nat) : (butNot a b).testBit k = (a.testBit k && !b.testBit k) := by
  unfold butNot
  simp only [Nat.testBit_and, Nat.testBit_xor]
  cases a.testBit k <;> cases b.testBit k <;> rfl
theorem butNot_add : ∀ (n a b : Nat), a ≤ n → butNot a b + (a &&& b) = a
  | 0, a, b, h => by
    have : a = 0 := by omega
    subst this
    simp [butNot]
  | n + 1, a, b, h => by
    by_cases h0 : a = 0
    · subst h0; simp [butNot]
    have ih := butNot_add n (a / 2) (b / 2) (by omega)
    have e1 : butNot a b / 2 = butNot (a / 2) (b / 2) := by
      unfold butNot; rw [Nat.and_div_two, Nat.xor_div_two]
    have e2 : (a &&& b) / 2 = (a / 2) &&& (b / 2) := Nat.and_div_two
    have m1 : (butNot a b % 2 = 1) ↔ (a % 2 = 1 ∧ ¬ b % 2 = 1) := by
      have q := butNot_test a b 0
      simp only [Nat.testBit_zero] at q
      rw [Bool.eq_iff_iff] at q
      simpa only [Bool.and_eq_true, decide_eq_true_eq, Bool.not_eq_true', decide_eq_false_iff_not] using q
    have m2 : ((a &&& b) % 2 = 1) ↔ (a % 2 = 1 ∧ b % 2 = 1) := by
      have q := Nat.testBit_and a b 0
      simp only [Nat.testBit_zero] at q
      rw [Bool.eq_iff_iff] at q
      simpa only [Bool.and_eq_true, decide_eq_true_eq] using q
    rw [← e1, ← e2] at ih
    have d1 := Nat.div_add_mod (butNot a b) 2
    have d2 := Nat.div_add_mod (a &&& b) 2
    have d3 := Nat.div_add_mod a 2
    omega
theorem butNot_sub (a b : Nat) : a - (a &&& b) = butNot a b := by
  have := butNot_add a a b (Nat.le_refl _)
  omega
def barred (at_ : List C) (t r : Nat) : Nat := butNot (mask at_ (kindRole 6 r)) t
def fol (at_ : List C) (r t u : Nat) : Bool := (inner at_ u &&& wanted at_ t r == wanted at_ t r) && (inner at_ u &&& barred at_ t r == 0)
theorem mask_some {at_ : List C} {f : C → Bool} {k : Nat} (h : (mask at_ f).testBit k = true) : ∃ a, at_[k]? = some a ∧ f a = true := by
  rw [mask_test] at h
  cases e : at_[k]? with
  | none => rw [e] at h; cases h
  | some a => rw [e] at h; exact ⟨a, rfl, h⟩
theorem fol_fits {at_ : List C} (nd : at_.Nodup) (r t u : Nat) : fol at_ r t u = fits at_ r t u := by
  apply Bool.eq_iff_iff.mpr
  unfold fol fits
  rw [Bool.and_eq_true, beq_iff_eq, beq_iff_eq, and_self_iff, and_zero_iff, List.all_eq_true]
  constructor
  · rintro ⟨h1, h2⟩ x hx
    obtain ⟨k, hk⟩ := List.getElem?_of_mem hx
    cases x with
    | some s c =>
      dsimp only
      by_cases e : s = r
      · subst e
        rw [holds_bit nd hk rfl]
        cases ht : t.testBit k with
        | true => simp
        | false =>
          have b : (barred at_ t s).testBit k = true := by
            unfold barred
            rw [butNot_test, mask_at hk, ht]
            show (kindOf (C.some s c) == 6 && numOf (C.some s c) == s && true) = true
            simp [kindOf, numOf]
          have q := h2 k b
          unfold inner at q
          rw [mask_at hk] at q
          have q' : holds at_ u c = false := q
          rw [q']; simp
      · have : (s != r) = true := by simp [e]
        rw [this]; rfl
    | all s c =>
      dsimp only
      by_cases e : s = r
      · subst e
        rw [holds_bit nd hk rfl]
        cases ht : t.testBit k with
        | false => simp
        | true =>
          have b : (wanted at_ t s).testBit k = true := by
            unfold wanted
            rw [Nat.testBit_and, mask_at hk, ht]
            show (true && (kindOf (C.all s c) == 7 && numOf (C.all s c) == s)) = true
            simp [kindOf, numOf]
          have q := h1 k b
          unfold inner at q
          rw [mask_at hk] at q
          have q' : holds at_ u c = true := q
          rw [q']; simp
      · have : (s != r) = true := by simp [e]
        rw [this]; rfl
    | _ => rfl
  · intro h
    refine ⟨fun k hk => ?_, fun k hk => ?_⟩
    · unfold wanted at hk
      rw [Nat.testBit_and, Bool.and_eq_true] at hk
      obtain ⟨a, ha, hf⟩ := mask_some hk.2
      unfold kindRole at hf
      rw [Bool.and_eq_true, beq_iff_eq, beq_iff_eq] at hf
      unfold inner
      rw [mask_at ha]
      have q := h a (List.mem_of_getElem? ha)
      cases a with
      | all s c =>
        have e : s = r := hf.2
        subst e
        dsimp only at q
        rw [holds_bit nd ha rfl, hk.1] at q
        show holds at_ u c = true
        simpa using q
      | _ => simp [kindOf] at hf
    · unfold barred at hk
      rw [butNot_test, Bool.and_eq_true] at hk
      obtain ⟨a, ha, hf⟩ := mask_some hk.1
      unfold kindRole at hf
      rw [Bool.and_eq_true, beq_iff_eq, beq_iff_eq] at hf
      unfold inner
      rw [mask_at ha]
      have q := h a (List.mem_of_getElem? ha)
      have ht : t.testBit k = false := by simpa using hk.2
      cases a with
      | some s c =>
        have e : s = r := hf.2
        subst e
        dsimp only at q
        rw [holds_bit nd ha rfl, ht] at q
        show holds at_ u c = false
        simpa using q
      | _ => simp [kindOf] at hf
/-- what one atom asks of an element's followers by a role -/
def serv1 (at_ : List C) (l : List Nat) (r t k : Nat) (a : C) : Bool :=
  if numOf a = r ∧ ((kindOf a = 6 ∧ t.testBit k = true) ∨ (kindOf a = 7 ∧ t.testBit k = false)) then
    (l.filter (fol at_ r t)).any fun u => (inner at_ u).testBit k == t.testBit k
  else true
def served (at_ : List C) (l : List Nat) (r t : Nat) : Bool := (List.range at_.length).all fun k => match at_[k]? with
  | some a => serv1 at_ l r t k a
  | none => true
theorem served_iff {at_ : List C} {l : List Nat} {r t : Nat} : served at_ l r t = true ↔ ∀ (k : Nat) (a : C), at_[k]? = some a → serv1 at_ l r t k a = true := by
  unfold served
  rw [List.all_eq_true]
  constructor
  · intro h k a e
    have q := h k (List.mem_range.mpr (List.getElem?_eq_some_iff.mp e).1)
    rw [e] at q
    exact q
  · intro h k _
    split
    · rename_i a e
      exact h k a e
    · rfl
theorem any_fol {at_ : List C} (nd : at_.Nodup) {l : List Nat} {r t k : Nat} {b : Bool} {a : C} (hk : at_[k]? = some a) : (l.filter (fol at_ r t)).any (fun u => (inner at_ u).testBit k == b) = l.any fun u => fits at_ r t u && (innerQ at_ u a == b) := by
  rw [List.any_filter]
  congr 1
  funext u
  rw [fol_fits nd]
  unfold inner
  rw [mask_at hk]
theorem borne_served {at_ : List C} (nd : at_.Nodup) (hr : ∀ a ∈ at_, isAt a = true → kindOf a ≠ 2 → numOf a < 2) (l : List Nat) (t : Nat) : (served at_ l 0 t && served at_ l 1 t) = borne at_ l t := by
  apply Bool.eq_iff_iff.mpr
  rw [Bool.and_eq_true, served_iff, served_iff]
  unfold borne
  rw [List.all_eq_true]
  have key : ∀ (k : Nat) (a : C), at_[k]? = some a → ∀ r, numOf a = r → (kindOf a = 6 ∨ kindOf a = 7) →
      (serv1 at_ l r t k a = true ↔ (match a with
        | .some r c => !holds at_ t a || l.any fun u => fits at_ r t u && holds at_ u c
        | .all r c => holds at_ t a || l.any fun u => fits at_ r t u && !holds at_ u c
        | _ => true) = true) := by
    intro k a hk r hn hkd
    unfold serv1
    cases a with
    | some s c =>
      have e : s = r := hn
      subst e
      rw [any_fol nd hk, holds_bit nd hk rfl]
      cases ht : t.testBit k with
      | true => simp [kindOf, numOf, innerQ]
      | false => simp [kindOf, numOf]
    | all s c =>
      have e : s = r := hn
      subst e
      rw [any_fol nd hk, holds_bit nd hk rfl]
      cases ht : t.testBit k with
      | true => simp [kindOf, numOf]
      | false => simp [kindOf, numOf, innerQ]
    | _ => simp [kindOf] at hkd
  constructor
  · rintro ⟨h0, h1⟩ x hx
    obtain ⟨k, hk⟩ := List.getElem?_of_mem hx
    cases x with
    | some r c =>
      have hlt : r < 2 := hr _ hx rfl (by simp [kindOf])
      have : r = 0 ∨ r = 1 := by omega
      rcases this with e | e
      · exact (key k _ hk r rfl (.inl rfl)).mp (by rw [e]; rw [e] at hk; exact h0 k _ hk)
      · exact (key k _ hk r rfl (.inl rfl)).mp (by rw [e]; rw [e] at hk; exact h1 k _ hk)
    | all r c =>
      have hlt : r < 2 := hr _ hx rfl (by simp [kindOf])
      have : r = 0 ∨ r = 1 := by omega
      rcases this with e | e
      · exact (key k _ hk r rfl (.inr rfl)).mp (by rw [e]; rw [e] at hk; exact h0 k _ hk)
      · exact (key k _ hk r rfl (.inr rfl)).mp (by rw [e]; rw [e] at hk; exact h1 k _ hk)
    | _ => rfl
  · intro h
    have all : ∀ r (k : Nat) (a : C), at_[k]? = some a → serv1 at_ l r t k a = true := by
      intro r k a hk
      by_cases hn : numOf a = r
      · by_cases hkd : kindOf a = 6 ∨ kindOf a = 7
        · refine (key k a hk r hn hkd).mpr ?_
          have q := h a (List.mem_of_getElem? hk)
          cases a <;> exact q
        · unfold serv1
          rw [if_neg]
          rintro ⟨_, ⟨q, _⟩ | ⟨q, _⟩⟩
          · exact hkd (.inl q)
          · exact hkd (.inr q)
      · unfold serv1
        rw [if_neg]
        rintro ⟨q, _⟩
        exact hn q
    exact ⟨all 0, all 1⟩
/-! ### settle without fuel -/
def stl (at_ : List C) (l : List Nat) : List Nat := settle at_ (l.length + 1) l
theorem settle_fuel {at_ : List C} : ∀ (n m : Nat) (l : List Nat), l.length < n → l.length < m → settle at_ n l = settle at_ m l
  | 0, _, _, h, _ => absurd h (Nat.not_lt_zero _)
  | _, 0, _, _, h => absurd h (Nat.not_lt_zero _)
  | n + 1, m + 1, l, h1, h2 => by
    unfold settle
    dsimp only
    split
    · rfl
    · rename_i e
      have q := List.length_filter_le (borne at_ l) l
      exact settle_fuel n m _ (by omega) (by omega)
theorem stl_eq {at_ : List C} (l : List Nat) : stl at_ l = if (l.filter (borne at_ l)).length = l.length then l else stl at_ (l.filter (borne at_ l)) := by
  unfold stl
  show (if (l.filter (borne at_ l)).length = l.length then l else settle at_ l.length (l.filter (borne at_ l))) = _
  split
  · rfl
  · rename_i e
    have q := List.length_filter_le (borne at_ l) l
    exact settle_fuel _ _ _ (by omega) (by omega)
theorem kept_stl {at_ : List C} {P : Nat → Bool} : kept at_ P = stl at_ ((List.range (2 ^ at_.length)).filter P) := by
  unfold kept stl
  have q := List.length_filter_le P (List.range (2 ^ at_.length))
  rw [List.length_range] at q
  exact settle_fuel _ _ _ (by omega) (by omega)
/-! ### within -/
def freeM (at_ : List C) (w : Oc06.Words) : Nat := mask at_ (freeA w)
def mustM (at_ : List C) (w : Oc06.Words) : Nat := mask at_ fun a => !freeA w a && isAll a
theorem within_law {at_ : List C} {w : Oc06.Words} {t : Nat} (ht : t < 2 ^ at_.length) : (t ||| freeM at_ w == mustM at_ w ||| freeM at_ w) = inSig w at_ t := by
  apply Bool.eq_iff_iff.mpr
  rw [beq_iff_eq, inSig_iff]
  constructor
  · intro h k a e f
    have q := congrArg (fun n => Nat.testBit n k) h
    simp only [Nat.testBit_or, freeM, mustM, mask_at e, f, Bool.or_false, Bool.not_false, Bool.true_and] at q
    rw [bit_eq]; exact q
  · intro h
    apply Nat.eq_of_testBit_eq
    intro k
    simp only [Nat.testBit_or, freeM, mustM]
    cases e : at_[k]? with
    | none =>
      have hk : at_.length ≤ k := List.getElem?_eq_none_iff.mp e
      have : t.testBit k = false := Nat.testBit_lt_two_pow (Nat.lt_of_lt_of_le ht (Nat.pow_le_pow_right (by decide) hk))
      rw [mask_test, mask_test, e, this]; rfl
    | some a =>
      rw [mask_at e, mask_at e]
      cases f : freeA w a with
      | true => simp
      | false =>
        have := h k a e f
        rw [bit_eq] at this
        rw [this]; simp
end Ax

namespace Ax
open Oc
/-! ### signatures -/
theorem put_or (m k : Nat) : Oc06.put m k = m ||| 2 ^ k := by
  unfold Oc06.put
  rw [bit_eq]
  apply Nat.eq_of_testBit_eq
  intro j
  by_cases h : m.testBit k = true
  · rw [if_pos h, Nat.testBit_or, Nat.testBit_two_pow]
    by_cases e : k = j
    · subst e; simp [h]
    · simp [e]
  · have h' : m.testBit k = false := by simpa using h
    rw [if_neg h]
    have hz : m &&& 2 ^ k = 0 := by
      apply Nat.eq_of_testBit_eq
      intro i
      rw [Nat.testBit_and, Nat.testBit_two_pow, Nat.zero_testBit]
      by_cases e : k = i
      · subst e; simp [h']
      · simp [e]
    have hs := butNot_add (m ||| 2 ^ k) (m ||| 2 ^ k) (2 ^ k) (Nat.le_refl _)
    have e1 : (m ||| 2 ^ k) &&& 2 ^ k = 2 ^ k := by
      apply Nat.eq_of_testBit_eq
      intro i
      rw [Nat.testBit_and, Nat.testBit_or]
      cases (2 ^ k).testBit i <;> simp
    have e2 : butNot (m ||| 2 ^ k) (2 ^ k) = m := by
      apply Nat.eq_of_testBit_eq
      intro i
      have hi := congrArg (fun n => Nat.testBit n i) hz
      simp only [Nat.testBit_and, Nat.zero_testBit] at hi
      rw [butNot_test, Nat.testBit_or]
      cases h1 : m.testBit i <;> cases h2 : (2 ^ k).testBit i <;> simp [h1, h2] at hi ⊢
    rw [e1, e2] at hs
    rw [hs]
def orF (ks : List Nat) (m : Nat) (c : C) : Nat := if kindOf c ∈ ks then m ||| 2 ^ numOf c else m
def orL (ks : List Nat) (l : List C) : Nat := l.foldl (orF ks) 0
theorem orF_acc (ks : List Nat) (m : Nat) : ∀ l : List C, l.foldl (orF ks) m = m ||| orL ks l
  | [] => by simp [orL]
  | c :: l => by
    unfold orL
    rw [List.foldl_cons, List.foldl_cons, orF_acc ks (orF ks m c) l, orF_acc ks (orF ks 0 c) l, ← Nat.or_assoc]
    congr 1
    unfold orF
    split
    · rw [Nat.zero_or]
    · rw [Nat.or_zero]
theorem orL_append (ks : List Nat) (a b : List C) : orL ks (a ++ b) = orL ks a ||| orL ks b := by
  show (a ++ b).foldl (orF ks) 0 = _
  rw [List.foldl_append, orF_acc]
  rfl
theorem orL_cons (ks : List Nat) (c : C) (l : List C) : orL ks (c :: l) = orF ks 0 c ||| orL ks l := by
  show l.foldl (orF ks) (orF ks 0 c) = _
  rw [orF_acc]
theorem wordsOf_eq : ∀ (c : C) (w : Oc06.Words), Oc06.wordsOf c w = ⟨w.names ||| orL [2] (subs c), w.roles ||| orL [6, 7] (subs c)⟩
  | .top, w => by simp [Oc06.wordsOf, subs, orL, orF, kindOf]
  | .bot, w => by simp [Oc06.wordsOf, subs, orL, orF, kindOf]
  | .name a, w => by simp [Oc06.wordsOf, subs, orL, orF, kindOf, numOf, put_or]
  | .and c d, w => by
    show Oc06.wordsOf d (Oc06.wordsOf c w) = _
    rw [wordsOf_eq d, wordsOf_eq c]
    simp only [subs, orL_cons, orL_append]
    have e1 : orF [2] 0 (.and c d) = 0 := rfl
    have e2 : orF [6, 7] 0 (.and c d) = 0 := rfl
    rw [e1, e2, Nat.zero_or, Nat.zero_or, Nat.or_assoc, Nat.or_assoc, Nat.or_comm (orL [2] (subs c)), Nat.or_comm (orL [6, 7] (subs c))]
  | .or c d, w => by
    show Oc06.wordsOf d (Oc06.wordsOf c w) = _
    rw [wordsOf_eq d, wordsOf_eq c]
    simp only [subs, orL_cons, orL_append]
    have e1 : orF [2] 0 (.or c d) = 0 := rfl
    have e2 : orF [6, 7] 0 (.or c d) = 0 := rfl
    rw [e1, e2, Nat.zero_or, Nat.zero_or, Nat.or_assoc, Nat.or_assoc, Nat.or_comm (orL [2] (subs c)), Nat.or_comm (orL [6, 7] (subs c))]
  | .not c, w => by
    show Oc06.wordsOf c w = _
    rw [wordsOf_eq c]
    simp only [subs, orL_cons]
    have e1 : orF [2] 0 (.not c) = 0 := rfl
    have e2 : orF [6, 7] 0 (.not c) = 0 := rfl
    rw [e1, e2, Nat.zero_or, Nat.zero_or]
  | .some r c, w => by
    show { Oc06.wordsOf c w with roles := Oc06.put (Oc06.wordsOf c w).roles r } = _
    rw [wordsOf_eq c]
    simp only [subs, orL_cons, put_or]
    have e1 : orF [2] 0 (.some r c) = 0 := rfl
    have e2 : orF [6, 7] 0 (.some r c) = 2 ^ r := by show 0 ||| 2 ^ r = 2 ^ r; rw [Nat.zero_or]
    rw [e1, e2, Nat.zero_or, Nat.or_assoc, Nat.or_comm (2 ^ r)]
  | .all r c, w => by
    show { Oc06.wordsOf c w with roles := Oc06.put (Oc06.wordsOf c w).roles r } = _
    rw [wordsOf_eq c]
    simp only [subs, orL_cons, put_or]
    have e1 : orF [2] 0 (.all r c) = 0 := rfl
    have e2 : orF [6, 7] 0 (.all r c) = 2 ^ r := by show 0 ||| 2 ^ r = 2 ^ r; rw [Nat.zero_or]
    rw [e1, e2, Nat.zero_or, Nat.or_assoc, Nat.or_comm (2 ^ r)]
theorem allIn_one (c : C) : allIn [c] = subs c := by simp [allIn]
theorem allIn_two (c d : C) : allIn [c, d] = subs d ++ subs c := by simp [allIn]
theorem words_one (c : C) : Oc06.wordsOf c ⟨0, 0⟩ = ⟨orL [2] (allIn [c]), orL [6, 7] (allIn [c])⟩ := by
  rw [wordsOf_eq, allIn_one, Nat.zero_or, Nat.zero_or]
theorem words_two (a : Axiom) (w : Oc06.Words) : Oc06.ofAxiom a w = ⟨w.names ||| orL [2] (allIn [a.1, a.2]), w.roles ||| orL [6, 7] (allIn [a.1, a.2])⟩ := by
  unfold Oc06.ofAxiom
  rw [wordsOf_eq, wordsOf_eq, allIn_two, orL_append, orL_append]
  simp only [Nat.or_assoc]
  rw [Nat.or_comm (orL [2] (subs a.1)), Nat.or_comm (orL [6, 7] (subs a.1))]
/-! ### grow without fuel -/
def fresh (ax : List Axiom) (l : List Nat) (w : Oc06.Words) : List Nat := (List.range ax.length).filter fun i => !l.contains i && match ax[i]? with
      | some a => !Oc06.quiet w a
      | none => false
def wider (ax : List Axiom) (new : List Nat) (w : Oc06.Words) : Oc06.Words := new.foldl (fun v i => match ax[i]? with
      | some a => Oc06.ofAxiom a v
      | none => v) w
theorem grow_succ (ax : List Axiom) (n : Nat) (l : List Nat) (w : Oc06.Words) : Oc06.grow ax (n + 1) l w = if (fresh ax l w).isEmpty = true then (l, w) else Oc06.grow ax n (l ++ fresh ax l w) (wider ax (fresh ax l w) w) := rfl
def left (ax : List Axiom) (l : List Nat) : Nat := ((List.range ax.length).filter fun i => !l.contains i).length
theorem filter_len_lt {α : Type} {p q : α → Bool} : ∀ {l : List α}, (∀ x ∈ l, p x = true → q x = true) → (∃ x ∈ l, q x = true ∧ p x = false) → (l.filter p).length < (l.filter q).length
  | [], _, h => by obtain ⟨x, hx, _⟩ := h; cases hx
  | a :: r, h1, h2 => by
    have le : (r.filter p).length ≤ (r.filter q).length := by
      have : ∀ r : List α, (∀ x ∈ r, p x = true → q x = true) → (r.filter p).length ≤ (r.filter q).length := by
        intro r
        induction r with
        | nil => intro _; exact Nat.le_refl _
        | cons b s ih =>
          intro h
          have ih' := ih fun x hx => h x (List.mem_cons_of_mem _ hx)
          rw [List.filter_cons, List.filter_cons]
          cases hp : p b with
          | true =>
            rw [if_pos rfl, if_pos (h b List.mem_cons_self hp)]
            exact Nat.succ_le_succ ih'
          | false =>
            rw [if_neg (by simp)]
            split
            · exact Nat.le_succ_of_le ih'
            · exact ih'
      exact this r fun x hx => h1 x (List.mem_cons_of_mem _ hx)
    rw [List.filter_cons, List.filter_cons]
    obtain ⟨x, hx, hq, hp⟩ := h2
    rcases List.mem_cons.mp hx with e | hx'
    · subst e
      rw [hp, hq, if_neg (by simp), if_pos rfl]
      exact Nat.lt_succ_of_le le
    · have ih := filter_len_lt (l := r) (fun y hy => h1 y (List.mem_cons_of_mem _ hy)) ⟨x, hx', hq, hp⟩
      cases hpa : p a with
      | true =>
        rw [if_pos rfl, if_pos (h1 a List.mem_cons_self hpa)]
        exact Nat.succ_lt_succ ih
      | false =>
        rw [if_neg (by simp)]
        split
        · exact Nat.lt_succ_of_lt ih
        · exact ih
theorem mem_fresh {ax : List Axiom} {l : List Nat} {w : Oc06.Words} {i : Nat} (h : i ∈ fresh ax l w) : i < ax.length ∧ i ∉ l := by
  have q := List.mem_filter.mp h
  refine ⟨List.mem_range.mp q.1, fun z => ?_⟩
  have q2 := q.2
  rw [List.contains_iff_mem.mpr z] at q2
  simp at q2
theorem left_lt {ax : List Axiom} {l : List Nat} {w : Oc06.Words} (h : fresh ax l w ≠ []) : left ax (l ++ fresh ax l w) < left ax l := by
  unfold left
  obtain ⟨i, hi⟩ := List.exists_mem_of_ne_nil _ h
  obtain ⟨h1, h2⟩ := mem_fresh hi
  refine filter_len_lt (fun x _ hx => ?_) ⟨i, List.mem_range.mpr h1, ?_, ?_⟩
  · cases e : l.contains x with
    | false => rfl
    | true =>
      have : (l ++ fresh ax l w).contains x = true := List.contains_iff_mem.mpr (List.mem_append_left _ (List.contains_iff_mem.mp e))
      rw [this] at hx; cases hx
  · have : l.contains i = false := by
      cases e : l.contains i with
      | false => rfl
      | true => exact absurd (List.contains_iff_mem.mp e) h2
    rw [this]; rfl
  · have : (l ++ fresh ax l w).contains i = true := List.contains_iff_mem.mpr (List.mem_append_right _ hi)
    rw [this]; rfl
theorem grow_fuel {ax : List Axiom} : ∀ (n m : Nat) (l : List Nat) (w : Oc06.Words), left ax l < n → left ax l < m → Oc06.grow ax n l w = Oc06.grow ax m l w
  | 0, _, _, _, h, _ => absurd h (Nat.not_lt_zero _)
  | _, 0, _, _, _, h => absurd h (Nat.not_lt_zero _)
  | n + 1, m + 1, l, w, h1, h2 => by
    rw [grow_succ, grow_succ]
    by_cases e : fresh ax l w = []
    · rw [e]; rfl
    · have e' : (fresh ax l w).isEmpty = false := by simpa using e
      rw [e', if_neg (by simp), if_neg (by simp)]
      have q := left_lt e
      exact grow_fuel n m _ _ (by omega) (by omega)
def grw (ax : List Axiom) (l : List Nat) (w : Oc06.Words) : List Nat × Oc06.Words := Oc06.grow ax (left ax l + 1) l w
theorem grw_done {ax : List Axiom} {l : List Nat} {w : Oc06.Words} (h : fresh ax l w = []) : grw ax l w = (l, w) := by
  unfold grw
  rw [grow_succ, h]; rfl
theorem grw_more {ax : List Axiom} {l : List Nat} {w : Oc06.Words} (h : fresh ax l w ≠ []) : grw ax l w = grw ax (l ++ fresh ax l w) (wider ax (fresh ax l w) w) := by
  unfold grw
  have e' : (fresh ax l w).isEmpty = false := by simpa using h
  rw [grow_succ, e', if_neg (by simp)]
  have q := left_lt h
  exact grow_fuel _ _ _ _ q (by omega)
theorem left_nil (ax : List Axiom) : left ax [] = ax.length := by
  unfold left
  have : (List.range ax.length).filter (fun i => !([] : List Nat).contains i) = List.range ax.length := List.filter_eq_self.mpr fun _ _ => rfl
  rw [this, List.length_range]
theorem part_eq (ax : List Axiom) (w : Oc06.Words) : Oc06.part ax w = ((List.range ax.length).filter (grw ax [] w).1.contains, (grw ax [] w).2) := by
  unfold Oc06.part
  have e : Oc06.grow ax (ax.length + 1) [] w = grw ax [] w := by
    unfold grw
    rw [left_nil]
  rw [e]
theorem nodup_fresh {ax : List Axiom} {l : List Nat} {w : Oc06.Words} : (fresh ax l w).Nodup := List.Pairwise.filter _ List.nodup_range
theorem nodup_more {ax : List Axiom} {l : List Nat} {w : Oc06.Words} (h : l.Nodup) : (l ++ fresh ax l w).Nodup := by
  rw [List.nodup_append]
  refine ⟨h, nodup_fresh, fun a ha b hb e => ?_⟩
  subst e
  exact (mem_fresh hb).2 ha
/-- the sorted list of the numbers chosen -/
theorem sorted_chosen {n : Nat} {l : List Nat} {ns : List Int} (nd : l.Nodup) (hl : ∀ i ∈ l, i < n) (hp : ns.Perm (l.map fun (i : Nat) => (i : Int))) (hs : ns.Pairwise (· ≤ ·)) : ns = ((List.range n).filter l.contains).map fun (i : Nat) => (i : Int) := by
  have h2 : (((List.range n).filter l.contains).map fun (i : Nat) => (i : Int)).Perm (l.map fun (i : Nat) => (i : Int)) := by
    refine List.Perm.map _ ?_
    refine (List.perm_ext_iff_of_nodup (List.Pairwise.filter _ List.nodup_range) nd).mpr fun i => ?_
    rw [List.mem_filter, List.mem_range, List.contains_iff_mem]
    exact ⟨fun h => h.2, fun h => ⟨hl i h, h⟩⟩
  have h3 : (((List.range n).filter l.contains).map fun (i : Nat) => (i : Int)).Pairwise (· ≤ ·) := by
    rw [List.pairwise_map]
    refine List.Pairwise.filter _ ?_
    refine List.Pairwise.imp ?_ (List.pairwise_lt_range (n := n))
    intro a b h
    omega
  exact List.Perm.eq_of_pairwise (fun a b _ _ h1 h2 => Int.le_antisymm h1 h2) hs h3 (hp.trans h2.symm)
end Ax

namespace Ax
open PySem PySem.Spec PyProof.Rows L2
open Oc (C Axiom)
/-! ### the text by places -/
def top (i : Nat) : Stmt := PySem.Challenge.pw_axiomparts_s01_answers.main.body.getD i (.Pass ⟨0, 0, 0, 0⟩)
abbrev sReI : Stmt := inClass (top 4) 0
abbrev sAsk : Stmt := top 5
abbrev sCI : Stmt := inClass (top 17) 0
abbrev sIs : Stmt := inClass (top 17) 1
abbrev sNeed : Stmt := top 18
abbrev sCat : Stmt := top 19
abbrev sMp : Stmt := top 20
abbrev sCo : Stmt := top 21
abbrev sAll : Stmt := top 22
abbrev sAtoms : Stmt := top 23
abbrev sBits : Stmt := top 24
abbrev sSig : Stmt := top 25
abbrev sFI : Stmt := inClass (top 27) 0
abbrev sSo : Stmt := inClass (top 27) 1
abbrev sInn : Stmt := inClass (top 27) 2
abbrev sAw : Stmt := inClass (top 27) 3
abbrev sKeep : Stmt := inClass (top 27) 4
abbrev sWin : Stmt := inClass (top 27) 5
abbrev sFol : Stmt := inClass (top 27) 6
abbrev sSrv : Stmt := inClass (top 27) 7
abbrev sPos : Stmt := inClass (top 27) 8
abbrev sSvA : Stmt := inClass (top 27) 9
abbrev sUnd : Stmt := inClass (top 27) 10
abbrev sAI : Stmt := inClass (top 30) 0
abbrev sLoc : Stmt := inClass (top 30) 1
abbrev sMI : Stmt := inClass (top 31) 0
abbrev sHas : Stmt := top 32
abbrev sMod : Stmt := top 33
abbrev sAskS : Stmt := top 39
abbrev sDI : Stmt := inClass (top 40) 0
abbrev sDBeg : Stmt := inClass (top 40) 1
abbrev sDLine : Stmt := inClass (top 40) 2
abbrev sDDrop : Stmt := inClass (top 40) 3
abbrev sDWords : Stmt := inClass (top 40) 4
abbrev sDQuiet : Stmt := inClass (top 40) 5
abbrev sDPart : Stmt := inClass (top 40) 6
abbrev sDCh : Stmt := inClass (top 40) 7
abbrev sDUnd : Stmt := inClass (top 40) 8
abbrev sDBy : Stmt := inClass (top 40) 9
abbrev sDTell : Stmt := inClass (top 40) 10
abbrev sDAns : Stmt := inClass (top 40) 11
abbrev sAnd : Stmt := top 41
abbrev sAns : Stmt := top 42
/-! ### what is known of a def or a class of the text -/
/-- a def that keeps its promise -/
structure DefOk (P : Program) (w : World) (K : PySem.W.Frag) (mg : Str → Option Value) (base : Heap) (CX : CXT) (k : Nat) (f : Addr) (ps : List Str) (sp : Sp) : Prop where
  ex : ∃ fd, FnOk P w K mg base CX k f fd ps sp ∧ Binds K fd ps []
  kp : PySem.W.keepIn K (.ref f) = true
/-- a def of the text -/
structure TDef (K : PySem.W.Frag) (x qual : Str) (st : Stmt) (f : Addr) (ps : List Str) : Prop where
  ex : ∃ fd, Fun K x qual st f fd ∧ Binds K fd ps []
  kp : PySem.W.keepIn K (.ref f) = true
section
variable {P : Program} {w : World} {K : PySem.W.Frag} {mg : Str → Option Value} {base : Heap}
theorem DefOk.mono {CX : CXT} {j k : Nat} {f : Addr} {ps : List Str} {sp : Sp} (D : DefOk P w K mg base CX j f ps sp) (h : j ≤ k) : DefOk P w K mg base CX k f ps sp := by
  obtain ⟨fd, F, b⟩ := D.ex
  exact ⟨⟨fd, F.mono h, b⟩, D.kp⟩
theorem TDef.ok {x qual : Str} {st : Stmt} {f : Addr} {N ps : List Str} {k : Nat} {sp : Sp} (F : TDef K x qual st f ps) (S : FnScope N ps (defScope st)) (len : ∀ vs H Q E, sp vs H Q E → vs.length = ps.length)
    (hbody : ∀ (cdv : Value) (A : Around) (outer : List Env) (s : Shared) (H : Hp) (vs : List V) (Q : VK) (E : XK), Room k (A.deeper (envOfC qual (defScope st) s.heap.objs.size f cdv)) → sp vs H Q E →
      ∃ t, PSs (cxOf CX0 P w K mg base N qual (defScope st) f cdv A outer s H E).nox (defBody st) t ∧ t { nx := fun _ H' => Q .non H', rt := Q } (start N vs) H) : DefOk P w K mg base CX0 (k + 1) f ps sp := by
  obtain ⟨fd, F', b⟩ := F.ex
  exact ⟨⟨fd, F'.ok S len hbody, b⟩, F.kp⟩
theorem TDef.okX {x qual : Str} {st : Stmt} {f : Addr} {N ps : List Str} {k : Nat} {sp : Sp} (F : TDef K x qual st f ps) (S : FnScope N ps (defScope st)) (len : ∀ vs H Q E, sp vs H Q E → vs.length = ps.length)
    (hbody : ∀ (cdv : Value) (A : Around) (outer : List Env) (s : Shared) (H : Hp) (vs : List V) (Q : VK) (E : XK), Room k (A.deeper (envOfC qual (defScope st) s.heap.objs.size f cdv)) → sp vs H Q E →
      ∃ t, PSs (cxOf (L2.CX P w) P w K mg base N qual (defScope st) f cdv A outer s H E) (defBody st) t ∧ t { nx := fun _ H' => Q .non H', rt := Q } (start N vs) H) : DefOk P w K mg base (L2.CX P w) (k + 1) f ps sp := by
  obtain ⟨fd, F', b⟩ := F.ex
  exact ⟨⟨fd, F'.okX S len hbody, b⟩, F.kp⟩
end
section
variable {X : Cx} {CX : CXT} {k : Nat} {f C : Addr} {ps : List Str} {sp : Sp} {E : XK} {x m : Str} {p pos apos : Pos} {e o : Expr} {es : List Expr} {ta : TE} {t : TA}
theorem dcall (D : DefOk X.prog X.w X.K X.mg X.base CX k f ps sp) (hr : Room k X.A) (hm : X.mg x = some (.ref f)) (hx : Passes CX X E) (ha : PA X (e :: es) t) (hg : Gl X x := by rfl) (hdb : (x == ("__debug__" : Str)) = false := by decide)
    (he : starEach (e :: es) X.env = (false, eval e X.env) :: starEach es X.env := by rfl) (hpl : (backTo pos (starEach es X.env)).any (·.1) = false := by rfl) : PE X (.Call (.Name x p) (e :: es) [] pos) (tCall sp [] E t) := by
  obtain ⟨fd, F, b⟩ := D.ex
  exact pe_call F hr hg hm D.kp b .nil hx ha hdb he hpl
theorem dmeth {pl : Sem Bool} (D : DefOk X.prog X.w X.K X.mg X.base CX k f ps sp) (hr : Room k X.A) (c : Cls X.K C) (hm : Meth X.K C m f) (hx : Passes CX X E) (he : PE X o ta) (ha : PA X (e :: es) t)
    (hst : starEach (e :: es) X.env = (false, eval e X.env) :: starEach es X.env := by rfl) (hpl : (backTo pos (starEach es X.env)).any (·.1) = false := by rfl)
    (ht : eval (.Call (.Attribute o m apos) (e :: es) [] pos) X.env = (do
      let ov ← eval o X.env
      standAt apos.atName
      let (f, first) ← holding [ov] (getMethod ov m pl)
      callWith pos f first (backTo pos (starEach (e :: es) X.env)) (backToKw pos (keywordEach [] X.env))) := by rfl) :
    PE X (.Call (.Attribute o m apos) (e :: es) [] pos) (tMeth C m sp [] E ta t) := by
  obtain ⟨fd, F, b⟩ := D.ex
  exact pe_meth he c hm F hr b .nil hx ha hst hpl ht
theorem dmeth0 {pl : Sem Bool} (D : DefOk X.prog X.w X.K X.mg X.base CX k f ps sp) (hr : Room k X.A) (c : Cls X.K C) (hm : Meth X.K C m f) (hx : Passes CX X E) (he : PE X o ta)
    (ht : eval (.Call (.Attribute o m apos) [] [] pos) X.env = (do
      let ov ← eval o X.env
      standAt apos.atName
      let (f, first) ← holding [ov] (getMethod ov m pl)
      callWith pos f first (backTo pos (starEach [] X.env)) (backToKw pos (keywordEach [] X.env))) := by rfl) :
    PE X (.Call (.Attribute o m apos) [] [] pos) (tMeth C m sp [] E ta tNil) := by
  obtain ⟨fd, F, b⟩ := D.ex
  exact pe_meth0 he c hm F hr b .nil hx ht
theorem dmake (M : Mk X.K C f) (D : DefOk X.prog X.w X.K X.mg X.base CX k f ps sp) (hr : Room (k + 1) X.A) (hm : X.mg x = some (.ref C)) (hx : Passes CX X E) (ha : PA X (e :: es) t) (hg : Gl X x := by rfl)
    (hdb : (x == ("__debug__" : Str)) = false := by decide) (he : starEach (e :: es) X.env = (false, eval e X.env) :: starEach es X.env := by rfl) (hpl : (backTo pos (starEach es X.env)).any (·.1) = false := by rfl) :
    PE X (.Call (.Name x p) (e :: es) [] pos) (tMake C sp [] E t) := by
  obtain ⟨fd, F, b⟩ := D.ex
  exact pe_make M F hr hg hm b .nil hx ha hdb he hpl
theorem dmake0 (M : Mk X.K C f) (D : DefOk X.prog X.w X.K X.mg X.base CX k f ps sp) (hr : Room (k + 1) X.A) (hm : X.mg x = some (.ref C)) (hx : Passes CX X E) (hg : Gl X x := by rfl)
    (hdb : (x == ("__debug__" : Str)) = false := by decide) : PE X (.Call (.Name x p) [] [] pos) (tMake C sp [] E tNil) := by
  obtain ⟨fd, F, b⟩ := D.ex
  exact pe_make0 M F hr hg hm b .nil hx hdb
/-- a call in a def whose own way out is E -/
theorem passE {W : WX} (tk : Takes X W) (hW : ∀ cls d σ H, E cls d H → W cls d σ H) : Passes (L2.CX X.prog X.w) X E := passes_call tk hW
end
/-! ### enumerate -/
theorem for_enum {K : PySem.W.Frag} {a : Addr} {xs : List V} {g : TG} {tb : TS} {D : Ends} {σ : L2.St} {H : Hp} (Pv : Nat → L2.St → Hp → Prop) (h0 : Pv 0 σ H) (hl : ∀ i σ H, i ≤ xs.length → Pv i σ H → SqL K H a xs)
    (hs : ∀ (i : Nat) x T σ H, xs[i]? = some x → H T = none → Pv i σ H → g (.ref T) σ (upd H T (.tup [.int (i : Nat), x])) fun σ2 H2 => tb { D with nx := Pv (i + 1), ct := Pv (i + 1), bk := D.nx } σ2 H2) (hd : ∀ σ H, Pv xs.length σ H → D.nx σ H) :
    ∃ W : Nat → Nat → L2.St → Hp → Prop, (∃ m, W 0 m σ H) ∧ ∀ i m σ H, W i m σ H →
      ((Ite K a).stop i H ∧ D.nx σ H) ∨ ((Ite K a).go i H ∧ ∃ N : L2.St → Hp → Prop, (∀ σ' H', N σ' H' → ∃ m', m' < m ∧ W (i + 1) m' σ' H') ∧ ∀ x H', (Ite K a).yld i H x H' → g x σ H' fun σ2 H2 => tb { D with nx := N, ct := N, bk := D.nx } σ2 H2) := by
  refine ⟨fun i m σ H => m = xs.length - i ∧ i ≤ xs.length ∧ Pv i σ H, ⟨xs.length, by simp, Nat.zero_le _, h0⟩, ?_⟩
  rintro i m σ H ⟨rfl, hi, p⟩
  have q := hl i σ H hi p
  by_cases hlt : i < xs.length
  · refine .inr ⟨⟨xs, xs[i], q, by simp [hlt]⟩, Pv (i + 1), fun σ' H' p' => ⟨xs.length - (i + 1), by omega, rfl, hlt, p'⟩, fun v H' y => ?_⟩
    obtain ⟨T, x, rfl, hT, rfl, y⟩ := y
    exact hs i x T σ _ (y xs q) hT p
  · have e : i = xs.length := by omega
    subst e
    exact .inl ⟨⟨xs, q, Nat.le_refl _⟩, hd σ H p⟩
/-! ### heaps -/
/-- all but code objects' tables stays -/
abbrev Kp (H H' : Hp) : Prop := ∀ b o, H b = some o → (∀ ps, o ≠ .tbl ps) → H' b = some o
theorem kp_of {H H' : Hp} (s : Same H H') : Kp H H' := fun b o e _ => s b o e
theorem same_new {H : Hp} {p : Addr} (h : H p = none) (o : HO) : Same H (upd H p o) := fun b u q => by rw [upd_ne (ne_of_none q h)]; exact q
theorem same_upd {H H' : Hp} {p : Addr} (s : Same H H') (h : H p = none) (o : HO) : Same H (upd H' p o) := fun b u q => by
  rw [upd_ne (ne_of_none q h)]
  exact s b u q
/-! ### concepts in the heap -/
def vI (n : Nat) : V := .int (n : Int)
structure Node (CC : Addr) (H : Hp) (v : V) (k n : Nat) (ps : List V) (es : List Nat) : Prop where
  ex : ∃ a dx pl pt, v = .ref a ∧ H a = some (.ins CC dx [("kind", vI k), ("number", vI n), ("parts", .ref pl), ("numbers", .ref pt)]) ∧ H pl = some (.lst ps) ∧ H pt = some (.tup (es.map vI))
theorem Node.kp {CC : Addr} {H H' : Hp} {v : V} {k n : Nat} {ps : List V} {es : List Nat} (s : Kp H H') (h : Node CC H v k n ps es) : Node CC H' v k n ps es := by
  obtain ⟨a, dx, pl, pt, e, h1, h2, h3⟩ := h.ex
  exact ⟨a, dx, pl, pt, e, s _ _ h1 (fun _ z => by cases z), s _ _ h2 (fun _ z => by cases z), s _ _ h3 (fun _ z => by cases z)⟩
def CAt (CC : Addr) (H : Hp) : C → V → Prop
  | .top, v => Node CC H v 0 0 [] (enc .top)
  | .bot, v => Node CC H v 1 0 [] (enc .bot)
  | .name a, v => Node CC H v 2 a [] (enc (.name a))
  | .and c d, v => ∃ p q, Node CC H v 3 0 [p, q] (enc (.and c d)) ∧ CAt CC H c p ∧ CAt CC H d q
  | .or c d, v => ∃ p q, Node CC H v 4 0 [p, q] (enc (.or c d)) ∧ CAt CC H c p ∧ CAt CC H d q
  | .not c, v => ∃ p, Node CC H v 5 0 [p] (enc (.not c)) ∧ CAt CC H c p
  | .some r c, v => ∃ p, Node CC H v 6 r [p] (enc (.some r c)) ∧ CAt CC H c p
  | .all r c, v => ∃ p, Node CC H v 7 r [p] (enc (.all r c)) ∧ CAt CC H c p
abbrev CsAt (CC : Addr) (H : Hp) : List C → List V → Prop := Paired (CAt CC H)
theorem CAt.kp {CC : Addr} {H H' : Hp} (s : Kp H H') : ∀ (c : C) (v : V), CAt CC H c v → CAt CC H' c v
  | .top, _, h => Node.kp s h
  | .bot, _, h => Node.kp s h
  | .name _, _, h => Node.kp s h
  | .and c d, _, h => let ⟨p, q, n, h1, h2⟩ := h; ⟨p, q, n.kp s, CAt.kp s c p h1, CAt.kp s d q h2⟩
  | .or c d, _, h => let ⟨p, q, n, h1, h2⟩ := h; ⟨p, q, n.kp s, CAt.kp s c p h1, CAt.kp s d q h2⟩
  | .not c, _, h => let ⟨p, n, h1⟩ := h; ⟨p, n.kp s, CAt.kp s c p h1⟩
  | .some _ c, _, h => let ⟨p, n, h1⟩ := h; ⟨p, n.kp s, CAt.kp s c p h1⟩
  | .all _ c, _, h => let ⟨p, n, h1⟩ := h; ⟨p, n.kp s, CAt.kp s c p h1⟩
theorem CsAt.kp {CC : Addr} {H H' : Hp} (s : Kp H H') {cs : List C} {vs : List V} (h : CsAt CC H cs vs) : CsAt CC H' cs vs := Paired.mapP h fun c v => CAt.kp s c v
theorem CAt.node {CC : Addr} {H : Hp} : ∀ {c : C} {v : V}, CAt CC H c v → ∃ ps, Node CC H v (kindOf c) (numOf c) ps (enc c) ∧ CsAt CC H (parts c) ps
  | .top, _, h => ⟨[], h, .nil⟩
  | .bot, _, h => ⟨[], h, .nil⟩
  | .name _, _, h => ⟨[], h, .nil⟩
  | .and _ _, _, ⟨p, q, n, h1, h2⟩ => ⟨[p, q], n, .cons h1 (.cons h2 .nil)⟩
  | .or _ _, _, ⟨p, q, n, h1, h2⟩ => ⟨[p, q], n, .cons h1 (.cons h2 .nil)⟩
  | .not _, _, ⟨p, n, h1⟩ => ⟨[p], n, .cons h1 .nil⟩
  | .some _ _, _, ⟨p, n, h1⟩ => ⟨[p], n, .cons h1 .nil⟩
  | .all _ _, _, ⟨p, n, h1⟩ => ⟨[p], n, .cons h1 .nil⟩
theorem CAt.mk {CC : Addr} {H : Hp} : ∀ {c : C} {v : V} {ps : List V}, Node CC H v (kindOf c) (numOf c) ps (enc c) → CsAt CC H (parts c) ps → CAt CC H c v
  | .top, _, _, n, .nil => n
  | .bot, _, _, n, .nil => n
  | .name _, _, _, n, .nil => n
  | .and _ _, _, _, n, .cons h1 (.cons h2 .nil) => ⟨_, _, n, h1, h2⟩
  | .or _ _, _, _, n, .cons h1 (.cons h2 .nil) => ⟨_, _, n, h1, h2⟩
  | .not _, _, _, n, .cons h1 .nil => ⟨_, n, h1⟩
  | .some _ _, _, _, n, .cons h1 .nil => ⟨_, n, h1⟩
  | .all _ _, _, _, n, .cons h1 .nil => ⟨_, n, h1⟩
end Ax

namespace Ax
open PySem PySem.Spec PyProof.Rows L2
open Oc (C Axiom)
/-- where the classes and defs of the text stand -/
structure Ad where
  re : Addr
  c : Addr
  f : Addr
  a : Addr
  m : Addr
  d : Addr
  reI : Addr
  ask : Addr
  cI : Addr
  cIs : Addr
  need : Addr
  cat : Addr
  mp : Addr
  co : Addr
  all : Addr
  atoms : Addr
  bits : Addr
  sig : Addr
  fI : Addr
  so : Addr
  inn : Addr
  aw : Addr
  keep : Addr
  win : Addr
  fol : Addr
  srv : Addr
  pos : Addr
  svA : Addr
  und : Addr
  aI : Addr
  loc : Addr
  mI : Addr
  has : Addr
  mod : Addr
  askS : Addr
  dI : Addr
  dBeg : Addr
  dLine : Addr
  dDrop : Addr
  dWords : Addr
  dQuiet : Addr
  dPart : Addr
  dCh : Addr
  dUnd : Addr
  dBy : Addr
  dTell : Addr
  dAns : Addr
  and_ : Addr
  ans : Addr
/-- a tuple of ints that the top has written -/
structure TupG (K : PySem.W.Frag) (mg : Str → Option Value) (x : Str) (ns : List Int) : Prop where
  ex : ∃ a, mg x = some (.ref a) ∧ ∀ H, SqT K H a (ns.map V.int)
/-- what the top has written -/
structure Txt (K : PySem.W.Frag) (mg : Str → Option Value) (A : Ad) : Prop where
  oex : OexC K A.re
  xf : XfC K A.re
  noCode : PySem.W.findIn K (.ref A.re) "code" = some none
  iRe : PySem.W.findIn K (.ref A.re) "__init__" = some (some (.ref A.reI))
  tRe : PySem.W.typeIn K (.ref A.reI) = some (.type "function")
  gRe : mg "Refusal" = some (.ref A.re)
  eRe : PySem.W.exmOne K (.ref A.re) (.ref A.re) = some true
  vBAD : ∃ t, mg "BAD" = some (.int (-1) t)
  vNONE_SUCH : ∃ t, mg "NONE_SUCH" = some (.int (-2) t)
  vTOO_MANY : ∃ t, mg "TOO_MANY" = some (.int (-7) t)
  vALL : ∃ t, mg "ALL" = some (.int (0) t)
  vNONE : ∃ t, mg "NONE" = some (.int (1) t)
  vNAME : ∃ t, mg "NAME" = some (.int (2) t)
  vBOTH : ∃ t, mg "BOTH" = some (.int (3) t)
  vEITHER : ∃ t, mg "EITHER" = some (.int (4) t)
  vNOT : ∃ t, mg "NOT" = some (.int (5) t)
  vSOME : ∃ t, mg "SOME" = some (.int (6) t)
  vEVERY : ∃ t, mg "EVERY" = some (.int (7) t)
  vMANY_NAMES : ∃ t, mg "MANY_NAMES" = some (.int (4) t)
  vMANY_ROLES : ∃ t, mg "MANY_ROLES" = some (.int (2) t)
  vMOST_ATOMS : ∃ t, mg "MOST_ATOMS" = some (.int (4) t)
  vMOST_AXIOMS : ∃ t, mg "MOST_AXIOMS" = some (.int (8) t)
  vMOST_ATOMS_ASKED : ∃ t, mg "MOST_ATOMS_ASKED" = some (.int (6) t)
  z_len : mg "len" = none
  z_range : mg "range" = none
  z_tuple : mg "tuple" = none
  z_list : mg "list" = none
  z_enumerate : mg "enumerate" = none
  z_all : mg "all" = none
  z_int : mg "int" = none
  z_sorted : mg "sorted" = none
  cl_c : Cls K A.c
  mk_c : Mk K A.c A.cI
  g_c : mg "Concept" = some (.ref A.c)
  n_c_kind : NoAttr K A.c "kind"
  n_c_number : NoAttr K A.c "number"
  n_c_parts : NoAttr K A.c "parts"
  n_c_numbers : NoAttr K A.c "numbers"
  cl_f : Cls K A.f
  mk_f : Mk K A.f A.fI
  g_f : mg "Frame" = some (.ref A.f)
  n_f_atoms : NoAttr K A.f "atoms"
  n_f_spots : NoAttr K A.f "spots"
  n_f_inner : NoAttr K A.f "inner"
  cl_a : Cls K A.a
  mk_a : Mk K A.a A.aI
  g_a : mg "Axiom" = some (.ref A.a)
  n_a_pair : NoAttr K A.a "pair"
  n_a_frame : NoAttr K A.a "frame"
  n_a_signature : NoAttr K A.a "signature"
  cl_m : Cls K A.m
  mk_m : Mk K A.m A.mI
  g_m : mg "Module" = some (.ref A.m)
  n_m_chosen : NoAttr K A.m "chosen"
  n_m_names : NoAttr K A.m "names"
  n_m_roles : NoAttr K A.m "roles"
  cl_d : Cls K A.d
  mk_d : Mk K A.d A.dI
  g_d : mg "Desk" = some (.ref A.d)
  n_d_axioms : NoAttr K A.d "axioms"
  d_reI : TDef K "__init__" "Refusal.__init__" sReI A.reI ["self", "code"]
  d_ask : TDef K "ask" "ask" sAsk A.ask ["is_so", "code"]
  g_ask : mg "ask" = some (.ref A.ask)
  d_cI : TDef K "__init__" "Concept.__init__" sCI A.cI ["self", "kind", "number", "parts", "numbers"]
  d_cIs : TDef K "is_atom" "Concept.is_atom" sIs A.cIs ["self"]
  m_cIs : Meth K A.c "is_atom" A.cIs
  d_need : TDef K "need_number" "need_number" sNeed A.need ["numbers", "at", "many"]
  g_need : mg "need_number" = some (.ref A.need)
  d_cat : TDef K "concept_at" "concept_at" sCat A.cat ["numbers", "at"]
  g_cat : mg "concept_at" = some (.ref A.cat)
  d_mp : TDef K "many_parts" "many_parts" sMp A.mp ["kind"]
  g_mp : mg "many_parts" = some (.ref A.mp)
  d_co : TDef K "concepts_of" "concepts_of" sCo A.co ["numbers", "many"]
  g_co : mg "concepts_of" = some (.ref A.co)
  d_all : TDef K "all_in" "all_in" sAll A.all ["concepts"]
  g_all : mg "all_in" = some (.ref A.all)
  d_atoms : TDef K "atoms_of" "atoms_of" sAtoms A.atoms ["concepts"]
  g_atoms : mg "atoms_of" = some (.ref A.atoms)
  d_bits : TDef K "bits_of" "bits_of" sBits A.bits ["concepts", "kinds"]
  g_bits : mg "bits_of" = some (.ref A.bits)
  d_sig : TDef K "signature_of" "signature_of" sSig A.sig ["concepts"]
  g_sig : mg "signature_of" = some (.ref A.sig)
  d_fI : TDef K "__init__" "Frame.__init__" sFI A.fI ["self", "concepts"]
  d_so : TDef K "is_so" "Frame.is_so" sSo A.so ["self", "concept", "pattern"]
  m_so : Meth K A.f "is_so" A.so
  d_inn : TDef K "inner_of" "Frame.inner_of" sInn A.inn ["self", "pattern"]
  m_inn : Meth K A.f "inner_of" A.inn
  d_aw : TDef K "atoms_with" "Frame.atoms_with" sAw A.aw ["self", "kind", "role"]
  m_aw : Meth K A.f "atoms_with" A.aw
  d_keep : TDef K "keeping" "Frame.keeping" sKeep A.keep ["self", "axioms"]
  m_keep : Meth K A.f "keeping" A.keep
  d_win : TDef K "within" "Frame.within" sWin A.win ["self", "names", "roles"]
  m_win : Meth K A.f "within" A.win
  d_fol : TDef K "followers" "Frame.followers" sFol A.fol ["self", "pattern", "some", "role"]
  m_fol : Meth K A.f "followers" A.fol
  d_srv : TDef K "is_served" "Frame.is_served" sSrv A.srv ["self", "pattern", "some", "role"]
  m_srv : Meth K A.f "is_served" A.srv
  d_pos : TDef K "possible" "Frame.possible" sPos A.pos ["self", "some"]
  m_pos : Meth K A.f "possible" A.pos
  d_svA : TDef K "is_served_all" "Frame.is_served_all" sSvA A.svA ["self", "pattern", "some"]
  m_svA : Meth K A.f "is_served_all" A.svA
  d_und : TDef K "is_under" "Frame.is_under" sUnd A.und ["self", "one", "other", "some"]
  m_und : Meth K A.f "is_under" A.und
  d_aI : TDef K "__init__" "Axiom.__init__" sAI A.aI ["self", "concepts"]
  d_loc : TDef K "is_local" "Axiom.is_local" sLoc A.loc ["self", "names", "roles"]
  m_loc : Meth K A.a "is_local" A.loc
  d_mI : TDef K "__init__" "Module.__init__" sMI A.mI ["self", "chosen", "names", "roles"]
  d_has : TDef K "has_few_atoms" "has_few_atoms" sHas A.has ["concepts"]
  g_has : mg "has_few_atoms" = some (.ref A.has)
  d_mod : TDef K "module_of" "module_of" sMod A.mod ["axioms", "names", "roles"]
  g_mod : mg "module_of" = some (.ref A.mod)
  d_askS : TDef K "ask_signature" "ask_signature" sAskS A.askS ["names", "roles"]
  g_askS : mg "ask_signature" = some (.ref A.askS)
  d_dI : TDef K "__init__" "Desk.__init__" sDI A.dI ["self"]
  d_dBeg : TDef K "begins" "Desk.begins" sDBeg A.dBeg ["self"]
  m_dBeg : Meth K A.d "begins" A.dBeg
  d_dLine : TDef K "line" "Desk.line" sDLine A.dLine ["self", "numbers"]
  m_dLine : Meth K A.d "line" A.dLine
  d_dDrop : TDef K "drop" "Desk.drop" sDDrop A.dDrop ["self", "index"]
  m_dDrop : Meth K A.d "drop" A.dDrop
  d_dWords : TDef K "words" "Desk.words" sDWords A.dWords ["self", "numbers"]
  m_dWords : Meth K A.d "words" A.dWords
  d_dQuiet : TDef K "quiet" "Desk.quiet" sDQuiet A.dQuiet ["self", "index", "names", "roles"]
  m_dQuiet : Meth K A.d "quiet" A.dQuiet
  d_dPart : TDef K "part" "Desk.part" sDPart A.dPart ["self", "names", "roles"]
  m_dPart : Meth K A.d "part" A.dPart
  d_dCh : TDef K "chosen_for" "Desk.chosen_for" sDCh A.dCh ["self", "concepts"]
  m_dCh : Meth K A.d "chosen_for" A.dCh
  d_dUnd : TDef K "under" "Desk.under" sDUnd A.dUnd ["self", "numbers"]
  m_dUnd : Meth K A.d "under" A.dUnd
  d_dBy : TDef K "by" "Desk.by" sDBy A.dBy ["self", "numbers"]
  m_dBy : Meth K A.d "by" A.dBy
  d_dTell : TDef K "tell_parts" "Desk.tell_parts" sDTell A.dTell ["self"]
  m_dTell : Meth K A.d "tell_parts" A.dTell
  d_dAns : TDef K "answer" "Desk.answer" sDAns A.dAns ["self", "call", "numbers", "row"]
  m_dAns : Meth K A.d "answer" A.dAns
  d_and_ : TDef K "answered" "answered" sAnd A.and_ ["desk", "call", "numbers", "row"]
  g_and_ : mg "answered" = some (.ref A.and_)
  d_ans : TDef K "answers" "answers" sAns A.ans ["calls"]
  g_ans : mg "answers" = some (.ref A.ans)
  tWR : TupG K mg "WITH_ROWS" [1, 3, 6, 7]
  tMN : TupG K mg "MANY_NUMBERS" [0, 0, 1, 0, 3, 2, 0, 0, 0]

/-! ### small words -/
section
variable {X : Cx}
theorem gi {n : Int} {x : Str} {pos : Pos} (h : ∃ t, X.mg x = some (.int n t)) (hg : Gl X x := by rfl) (hd : (x == ("__debug__" : Str)) = false := by decide) : PE X (.Name x pos) (tC (.int n)) := by
  obtain ⟨t, h⟩ := h
  exact pe_glob hg h ⟨_, rfl⟩ hd
/-- len of a list or a tuple -/
theorem lenE {e : Expr} {te : TE} {p pos : Pos} (z : X.mg "len" = none) (he : PE X e te) (hg : Gl X "len" := by rfl) (hs : starEach [e] X.env = (false, eval e X.env) :: starEach [] X.env := by rfl)  :
    PE X (.Call (.Name "len" p) [e] [] pos) (tCB (fun xs H Q => ∃ p ys, xs = [.ref p] ∧ (SqL X.K H p ys ∨ SqT X.K H p ys) ∧ Q (.int ys.length) H) (tCons te tNil)) :=
  pe_callB call_len_seq hg z PySem.boot_len (pa_cons he pa_nil hs) (by decide) (by decide) hs
theorem appE {o e : Expr} {to te : TE} {p cpos : Pos} (ho : PE X o to) (he : PE X e te) (hs : starEach [e] X.env = (false, eval e X.env) :: starEach [] X.env := by rfl) (hbase : attributeBase o "append" X.env (eval o X.env) = eval o X.env := by rfl)
    (hfew : ((backTo cpos (starEach [e] X.env)).all (fun x => !x.1) && (backToKw cpos (keywordEach [] X.env)).all (fun x => x.1.isSome)
      && decide ([e].length + ([] : List Keyword).length + (if ([] : List Keyword).isEmpty then 0 else 1) < 30)) = true := by rfl)
    (hline : (p.endLine == cpos.line) = true := by rfl) (hplain : (backTo cpos (starEach ([] : List Expr) X.env)).any (·.1) = false := by rfl) :
    PE X (.Call (.Attribute o "append" p) [e] [] cpos) (tBM X.K "list" rAppend to (tCons te tNil)) :=
  pe_bm PySem.F.plainAttrs_list PySem.F.slot_list_append PySem.F.type_list_append mt_append ho (pa_cons he pa_nil hs) hbase hfew hline hs hplain
end
theorem vI_inj {a b : Nat} (h : vI a = vI b) : a = b := by
  unfold vI at h
  injection h with h
  omega
/-- the error, told by its code -/
def Raised (A : Ad) (code : Int) (H : Hp) (E : XK) : Prop := ∀ (d : Addr) (H' : Hp), Same H H' → H d = none → H' d = some (.xd [("code", .int code)]) → E (.ref A.re) (some d) H'
theorem Raised.same {A : Ad} {code : Int} {H H1 : Hp} {E : XK} (s : Same H H1) (r : Raised A code H E) : Raised A code H1 E := fun d H' s' hd h => r d H' (s.trans s') (s.free hd) h
def spReI (A : Ad) : Sp := fun vs H Q _ => ∃ (a : Addr) (v : V), vs = [.ref a, v] ∧ H a = some (exo a A.re none) ∧ ∀ dx, H dx = none → dx ≠ a → Q .non (upd (upd H dx (exd dx [("code", v)])) a (exo a A.re (some dx)))
def spAsk (A : Ad) : Sp := fun vs H Q E => ∃ (b : Bool) (code : Int), vs = [.bl b, .int code] ∧ (b = true → Q .non H) ∧ (b = false → Raised A code H E)
section
variable {P : Program} {w : World} {K : PySem.W.Frag} {mg : Str → Option Value} {base : Heap} {A : Ad}
theorem sc_reI : FnScope ["self", "code"] ["self", "code"] (defScope sReI) := ⟨rfl, rfl, rfl, by decide +kernel, rfl, by decide +kernel, by decide +kernel⟩
theorem ok_reI (T : Txt K mg A) : DefOk P w K mg base CX0 1 A.reI ["self", "code"] (spReI A) := by
  refine T.d_reI.ok sc_reI (fun vs H Q E h => ?_) (fun cdv B outer s H vs Q E hr h => ⟨_, pss_one (ps_ost (pv 0) (pv 1)), ?_⟩)
  · obtain ⟨a, v, rfl, _⟩ := h
    rfl
  · obtain ⟨a, v, rfl, h1, q⟩ := h
    exact ⟨_, rfl, _, rfl, a, A.re, rfl, T.oex, T.noCode, .inl ⟨h1, fun dx h2 h3 => q dx h2 h3⟩⟩
theorem sc_ask : FnScope ["is_so", "code"] ["is_so", "code"] (defScope sAsk) := ⟨rfl, rfl, rfl, by decide +kernel, rfl, by decide +kernel, by decide +kernel⟩
theorem ok_ask (T : Txt K mg A) : DefOk P w K mg base (L2.CX P w) 3 A.ask ["is_so", "code"] (spAsk A) := by
  obtain ⟨fdI, FI, bI⟩ := (ok_reI (P := P) (w := w) (base := base) T).ex
  refine T.d_ask.okX sc_ask (fun vs H Q E h => ?_) (fun cdv B outer s H vs Q E hr h => ⟨_, pss_one (ps_if (pt_not (pt_val (pv 0))) (pss_one (ps_raise rfl (takes_of rfl rfl rfl rfl) (pmk_oex T.oex T.iRe T.tRe FI hr bI .nil pass0 rfl T.gRe (pa_cons (pv 1) pa_nil)))) pss_nil), ?_⟩)
  · obtain ⟨a, v, rfl, _⟩ := h
    rfl
  · obtain ⟨b, code, rfl, q1, q2⟩ := h
    refine ⟨_, rfl, b, rfl, ?_⟩
    cases b with
    | true => exact iteF (q1 rfl)
    | false =>
      refine iteT ⟨_, rfl, (by show 1 ≤ 1000; decide), fun a ha => ?_⟩
      refine ⟨a, .int code, rfl, upd_same, fun dx h1 h2 => ⟨rfl, dx, [("code", .int code)], upd_same, ?_, ?_, ?_⟩⟩
      · rw [upd_ne h2, upd_same]
      · rw [upd_ne h2] at h1; exact h1
      · rw [upd_ne h2] at h1
        refine q2 rfl dx _ (fun b o e => ?_) h1 upd_same
        have hb1 : b ≠ dx := ne_of_none e h1
        have hb2 : b ≠ a := ne_of_none e ha
        rw [upd_ne hb1, del_ne hb2, upd_ne hb2, upd_ne hb1, upd_ne hb2]
        exact e
end
end Ax

namespace Ax
open PySem PySem.Spec PyProof.Rows L2
open Oc (C Axiom)
/-! ### fields -/
theorem lk0 {k : Str} {v : V} {r : List (Str × V)} : List.lookup k ((k, v) :: r) = some v := by
  have e : (k == k) = true := beq_self_eq_true k
  simp only [List.lookup, e]
theorem lk1 {k g : Str} {v : V} {r : List (Str × V)} (h : (k == g) = false) : List.lookup k ((g, v) :: r) = List.lookup k r := by
  simp only [List.lookup, h]
theorem put0 {f : Str} {v x : V} {r : List (Str × V)} : putF f v ((f, x) :: r) = (f, v) :: r := if_pos rfl
theorem put1 {f g : Str} {v x : V} {r : List (Str × V)} (h : ¬ g = f) : putF f v ((g, x) :: r) = (g, x) :: putF f v r := if_neg h
theorem put1' {f g : Str} {v x : V} {r r' : List (Str × V)} (h : ¬ g = f) (q : putF f v r = r') : putF f v ((g, x) :: r) = (g, x) :: r' := by rw [put1 h, q]
theorem putN {f : Str} {v : V} : putF f v [] = [(f, v)] := rfl
theorem lkN {k : Str} : List.lookup k ([] : List (Str × V)) = none := rfl
local macro_rules | `(tactic| walk_at "ax lk") => `(tactic| (first | with_reducible exact lk0 | with_reducible exact lkN | (refine (lk1 (by decide +kernel)).trans ?_; walk_at "ax lk")))
local macro_rules | `(tactic| walk_at "ax put") => `(tactic| (first | with_reducible exact putN | with_reducible exact put0 | (refine put1' (by decide +kernel) ?_; walk_at "ax put")))
abbrev cF (k n pl pt : V) : List (Str × V) := [("kind", k), ("number", n), ("parts", pl), ("numbers", pt)]
theorem cF_kind {k n pl pt : V} : (cF k n pl pt).lookup ("kind" : Str) = some k := by walk_at "ax lk"
theorem cF_number {k n pl pt : V} : (cF k n pl pt).lookup ("number" : Str) = some n := by walk_at "ax lk"
theorem cF_parts {k n pl pt : V} : (cF k n pl pt).lookup ("parts" : Str) = some pl := by walk_at "ax lk"
theorem cF_numbers {k n pl pt : V} : (cF k n pl pt).lookup ("numbers" : Str) = some pt := by walk_at "ax lk"
theorem cF_is {k n pl pt : V} : (cF k n pl pt).lookup ("is_atom" : Str) = none := by walk_at "ax lk"
theorem cF_1 {k : V} : putF "kind" k [] = ([("kind", k)] : List (Str × V)) := by walk_at "ax put"
theorem cF_2 {k n : V} : putF "number" n [("kind", k)] = ([("kind", k), ("number", n)] : List (Str × V)) := by walk_at "ax put"
theorem cF_3 {k n pl : V} : putF "parts" pl [("kind", k), ("number", n)] = ([("kind", k), ("number", n), ("parts", pl)] : List (Str × V)) := by walk_at "ax put"
theorem cF_4 {k n pl pt : V} : putF "numbers" pt [("kind", k), ("number", n), ("parts", pl)] = cF k n pl pt := by walk_at "ax put"
theorem ins_len {n : Nat} (h : n ≤ 10) : n < 1000 := by omega
/-- a concept's own object -/
theorem CAt.obj {CC : Addr} {H : Hp} {c : C} {v : V} (h : CAt CC H c v) : ∃ a dx pl pt ps, v = .ref a ∧ H a = some (.ins CC dx (cF (vI (kindOf c)) (vI (numOf c)) (.ref pl) (.ref pt))) ∧ H pl = some (.lst ps) ∧ H pt = some (.tup ((enc c).map vI)) ∧ CsAt CC H (parts c) ps := by
  obtain ⟨ps, n, q⟩ := h.node
  obtain ⟨a, dx, pl, pt, e, h1, h2, h3⟩ := n.ex
  exact ⟨a, dx, pl, pt, ps, e, h1, h2, h3, q⟩
/-! ### promises -/
def spCI (A : Ad) : Sp := fun vs H Q _ => ∃ (p dx : Addr) (k n pl pt : V), vs = [.ref p, k, n, pl, pt] ∧ H p = some (.ins A.c dx []) ∧ Q .non (upd H p (.ins A.c dx (cF k n pl pt)))
def spIs (A : Ad) : Sp := fun vs H Q _ => ∃ (v : V) (c : C), vs = [v] ∧ CAt A.c H c v ∧ ∀ H', Same H H' → Q (.bl (isAt c)) H'
def spNeed (A : Ad) (K : PySem.W.Frag) : Sp := fun vs H Q E => ∃ (a : Addr) (ns : List Nat) (i m : Nat), vs = [.ref a, vI i, vI m] ∧ SqL K H a (ns.map vI) ∧ (∀ x, ns[i]? = some x → x < m → Q (vI x) H) ∧ ((∀ x, ns[i]? = some x → ¬ x < m) → Raised A (-1) H E)
def spMp : Sp := fun vs H Q _ => ∃ k : Nat, vs = [vI k] ∧ ∀ H', Same H H' → Q (vI (many k)) H'
/-- what is new -/
def Nw (H H' : Hp) : Hp := fun b => if (H b).isNone = true then H' b else none
theorem nw_of {H H' : Hp} {b : Addr} {o : HO} (h : H b = none) (h' : H' b = some o) : Nw H H' b = some o := by
  unfold Nw
  rw [h]
  exact h'
theorem of_nw {H H' : Hp} {b : Addr} {o : HO} (h : Nw H H' b = some o) : H b = none ∧ H' b = some o := by
  unfold Nw at h
  cases e : H b with
  | none => rw [e] at h; exact ⟨rfl, h⟩
  | some u => rw [e] at h; cases h
def spCat (A : Ad) (K : PySem.W.Frag) (n : Nat) : Sp := fun vs H Q E => ∃ (a : Addr) (ns : List Nat) (i : Nat), vs = [.ref a, vI i] ∧ SqL K H a (ns.map vI) ∧ ns.length ≤ 1000 ∧ i ≤ ns.length ∧ ns.length < i + n ∧
  (R (ns.drop i) = none → Raised A (-1) H E) ∧
  (∀ c r, R (ns.drop i) = some (c, r) → ∀ t H' v, Same H H' → H t = none → H' t = some (.tup [v, vI (ns.length - r.length)]) → CAt A.c (Nw H H') c v → Q (.ref t) H')
def spCo (A : Ad) (K : PySem.W.Frag) : Sp := fun vs H Q E => ∃ (a : Addr) (ns : List Nat) (m : Nat), vs = [.ref a, vI m] ∧ SqL K H a (ns.map vI) ∧ ns.length ≤ 30 ∧ m ≤ 2 ∧
  ((∀ cs, Rs m ns ≠ some (cs, [])) → Raised A (-1) H E) ∧
  (∀ cs, Rs m ns = some (cs, []) → ∀ l H' vs, Same H H' → H l = none → H' l = some (.lst vs) → CsAt A.c H' cs vs → Q (.ref l) H')
section
variable {P : Program} {w : World} {K : PySem.W.Frag} {mg : Str → Option Value} {base : Heap} {A : Ad}
/-- in a def's own context: what a call lets out leaves the def -/
theorem passD {N : List Str} {qual : Str} {sc : Scope} {f : Addr} {cd : Value} {B : Around} {outer : List Env} {s : Shared} {H : Hp} {E : XK} : Passes (L2.CX P w) (cxOf (L2.CX P w) P w K mg base N qual sc f cd B outer s H E) E :=
  passE (takes_of rfl rfl rfl rfl) fun _ _ _ _ h => h
theorem sc_cI : FnScope ["self", "kind", "number", "parts", "numbers"] ["self", "kind", "number", "parts", "numbers"] (defScope sCI) := ⟨rfl, rfl, rfl, by decide +kernel, rfl, by decide +kernel, by decide +kernel⟩
theorem ok_cI (T : Txt K mg A) : DefOk P w K mg base CX0 1 A.cI ["self", "kind", "number", "parts", "numbers"] (spCI A) := by
  refine T.d_cI.ok sc_cI (fun vs H Q E h => ?_) (fun cdv B outer s H vs Q E hr h => ⟨_, pss_cons (ps_fld (pv 0) (pv 1) rfl) (pss_cons (ps_fld (pv 0) (pv 2) rfl) (pss_cons (ps_fld (pv 0) (pv 3) rfl) (pss_one (ps_fld (pv 0) (pv 4) rfl)))), ?_⟩)
  · obtain ⟨p, dx, k, n, pl, pt, rfl, _⟩ := h
    rfl
  · obtain ⟨p, dx, k, n, pl, pt, rfl, h1, q⟩ := h
    refine ⟨_, rfl, _, rfl, p, A.c, dx, _, rfl, h1, T.cl_c, T.n_c_kind, ins_len (by show 0 ≤ 10; decide), ?_⟩
    rw [cF_1]
    refine ⟨_, rfl, _, rfl, p, A.c, dx, _, rfl, upd_same, T.cl_c, T.n_c_number, ins_len (by show 1 ≤ 10; decide), ?_⟩
    rw [cF_2, upd_upd]
    refine ⟨_, rfl, _, rfl, p, A.c, dx, _, rfl, upd_same, T.cl_c, T.n_c_parts, ins_len (by show 2 ≤ 10; decide), ?_⟩
    rw [cF_3, upd_upd]
    refine ⟨_, rfl, _, rfl, p, A.c, dx, _, rfl, upd_same, T.cl_c, T.n_c_numbers, ins_len (by show 3 ≤ 10; decide), ?_⟩
    rw [cF_4, upd_upd]
    exact q
theorem isAt_in (c : C) : inV (vI (kindOf c)) [.int 2, .int 6, .int 7] = isAt c := by cases c <;> rfl
theorem sc_is : FnScope ["self"] ["self"] (defScope sIs) := ⟨rfl, rfl, rfl, by decide +kernel, rfl, by decide +kernel, by decide +kernel⟩
theorem ok_is (T : Txt K mg A) : DefOk P w K mg base CX0 1 A.cIs ["self"] (spIs A) := by
  refine T.d_cIs.ok sc_is (fun vs H Q E h => ?_) (fun cdv B outer s H vs Q E hr h => ⟨_, pss_one (ps_ret (pe_cmpR op_in_seq (pe_fld (pv 0) rfl) (pe_tup (pa_cons (gi T.vNAME) (pa_cons (gi T.vSOME) (pa_cons (gi T.vEVERY) pa_nil)))) (by rfl))), ?_⟩)
  · obtain ⟨v, c, rfl, _⟩ := h
    rfl
  · obtain ⟨v, c, rfl, hc, q⟩ := h
    obtain ⟨a, dx, pl, pt, ps, rfl, h1, h2, h3, h4⟩ := hc.obj
    refine ⟨_, rfl, a, A.c, dx, _, _, rfl, h1, T.cl_c, T.n_c_kind, cF_kind, ?_⟩
    refine ⟨(by show 3 ≤ sizeLine; decide), fun p hp => ⟨p, _, rfl, .inr (SqT.of upd_same), rfl, rfl, ?_⟩⟩
    show Q (.bl (inV (vI (kindOf c)) [.int 2, .int 6, .int 7])) _
    rw [isAt_in]
    exact q _ (same_new hp _)
theorem sc_need : FnScope ["numbers", "at", "many"] ["numbers", "at", "many"] (defScope sNeed) := ⟨rfl, rfl, rfl, by decide +kernel, rfl, by decide +kernel, by decide +kernel⟩
theorem ok_need (T : Txt K mg A) : DefOk P w K mg base (L2.CX P w) 4 A.need ["numbers", "at", "many"] (spNeed A K) := by
  refine T.d_need.okX sc_need (fun vs H Q E h => ?_) (fun cdv B outer s H vs Q E hr h => ⟨_, pss_cons (ps_expr (dcall (ok_ask T) hr T.g_ask passD (pa_cons (pe_and (pe_cmpR op_lt (pv 1) (lenE T.z_len (pv 0)) (nomark _)) (pe_one (pe_cmpR op_lt (pe_ix ix_list (pv 0) (pv 1) (fun _ _ => rfl)) (pv 2) (nomark _)))) (pa_cons (gi T.vBAD) pa_nil))))
    (pss_one (ps_ret (pe_ix ix_list (pv 0) (pv 1) (fun _ _ => rfl)))), ?_⟩)
  · obtain ⟨a, ns, i, m, rfl, _⟩ := h
    rfl
  · obtain ⟨a, ns, i, m, rfl, hS, q1, q2⟩ := h
    refine ⟨_, rfl, _, rfl, a, _, rfl, .inl hS, _, _, rfl, rfl, _, rfl, ?_⟩
    by_cases c : i < ns.length
    · have e : decide ((i : Int) < (((ns.map vI).length : Nat) : Int)) = true := by
        rw [List.length_map]
        exact decide_eq_true (by omega)
      rw [if_pos e]
      have hx : ns[i]? = some ns[i] := List.getElem?_eq_getElem c
      have hv : atI (ns.map vI) (i : Int) = some (vI ns[i]) := atI_nat (by rw [List.getElem?_map, hx]; rfl)
      refine ⟨_, rfl, _, rfl, a, _, _, _, rfl, rfl, hS, hv, _, rfl, _, _, rfl, rfl, ?_⟩
      by_cases c2 : ns[i] < m
      · have e2 : decide (((ns[i] : Nat) : Int) < (m : Int)) = true := decide_eq_true (by omega)
        refine ⟨_, _, rfl, fun _ => ⟨_, rfl, _, rfl, a, _, _, _, rfl, rfl, hS, hv, q1 _ hx c2⟩, fun z => ?_⟩
        rw [e2] at z; cases z
      · have e2 : decide (((ns[i] : Nat) : Int) < (m : Int)) = false := decide_eq_false (by omega)
        refine ⟨_, _, rfl, fun z => ?_, fun _ => q2 fun x hx' => ?_⟩
        · rw [e2] at z; cases z
        · rw [hx] at hx'; cases hx'; exact c2
    · have e : decide ((i : Int) < (((ns.map vI).length : Nat) : Int)) = false := by
        rw [List.length_map]
        exact decide_eq_false (by omega)
      rw [if_neg (by rw [e]; simp)]
      refine ⟨false, -1, rfl, fun z => (by cases z), fun _ => q2 fun x hx => ?_⟩
      rw [List.getElem?_eq_none (by omega)] at hx
      cases hx
theorem sc_mp : FnScope ["kind"] ["kind"] (defScope sMp) := ⟨rfl, rfl, rfl, by decide +kernel, rfl, by decide +kernel, by decide +kernel⟩
theorem inV2 (k : Nat) (a b : Nat) : inV (vI k) [vI a, vI b] = decide (k = a ∨ k = b) := by
  show (eqV (vI a) (vI k) || (eqV (vI b) (vI k) || false)) = _
  have e : ∀ a, eqV (vI a) (vI k) = decide (k = a) := fun a => by
    show decide ((a : Int) = (k : Int)) = _
    by_cases h : k = a
    · subst h; simp
    · rw [decide_eq_false h, decide_eq_false (by omega)]
  rw [e, e]
  by_cases h1 : k = a <;> by_cases h2 : k = b <;> simp [h1, h2]
theorem inV3 (k : Nat) (a b c : Nat) : inV (vI k) [vI a, vI b, vI c] = decide (k = a ∨ k = b ∨ k = c) := by
  show (eqV (vI a) (vI k) || (eqV (vI b) (vI k) || (eqV (vI c) (vI k) || false))) = _
  have e : ∀ a, eqV (vI a) (vI k) = decide (k = a) := fun a => by
    show decide ((a : Int) = (k : Int)) = _
    by_cases h : k = a
    · subst h; simp
    · rw [decide_eq_false h, decide_eq_false (by omega)]
  rw [e, e, e]
  by_cases h1 : k = a <;> by_cases h2 : k = b <;> by_cases h3 : k = c <;> simp [h1, h2, h3]
theorem ok_mp (T : Txt K mg A) : DefOk P w K mg base CX0 1 A.mp ["kind"] spMp := by
  refine T.d_mp.ok sc_mp (fun vs H Q E h => ?_) (fun cdv B outer s H vs Q E hr h => ⟨_, pss_cons (ps_if (pt_cmpR op_in_seq (pv 0) (pe_tup (pa_cons (gi T.vBOTH) (pa_cons (gi T.vEITHER) pa_nil))) (by rfl)) (pss_one (ps_ret pe_int)) pss_nil)
    (pss_one (ps_ret (pe_ifExp (pt_cmpR op_in_seq (pv 0) (pe_tup (pa_cons (gi T.vNOT) (pa_cons (gi T.vSOME) (pa_cons (gi T.vEVERY) pa_nil)))) (by rfl)) pe_int pe_int))), ?_⟩)
  · obtain ⟨k, rfl, _⟩ := h
    rfl
  · obtain ⟨k, rfl, q⟩ := h
    refine ⟨_, rfl, (by show 2 ≤ sizeLine; decide), fun p hp => ⟨p, _, rfl, .inr (SqT.of upd_same), rfl, rfl, _, rfl, ?_⟩⟩
    show if inV (vI k) [vI 3, vI 4] = true then _ else _
    rw [inV2]
    by_cases c : k = 3 ∨ k = 4
    · rw [if_pos (decide_eq_true c)]
      have e : many k = 2 := if_pos c
      rw [e] at q
      exact q _ (same_new hp _)
    · rw [if_neg (by rw [decide_eq_false c]; simp)]
      refine ⟨_, rfl, (by show 3 ≤ sizeLine; decide), fun p2 hp2 => ⟨p2, _, rfl, .inr (SqT.of upd_same), rfl, rfl, _, rfl, ?_⟩⟩
      show if inV (vI k) [vI 5, vI 6, vI 7] = true then _ else _
      have s2 : Same H (upd (upd H p (.tup [.int 3, .int 4])) p2 (.tup [.int 5, .int 6, .int 7])) := (same_new hp _).trans (same_new hp2 _)
      rw [inV3]
      by_cases c2 : k = 5 ∨ k = 6 ∨ k = 7
      · rw [if_pos (decide_eq_true c2)]
        have e : many k = 1 := (if_neg c).trans (if_pos c2)
        rw [e] at q
        exact q _ s2
      · rw [if_neg (by rw [decide_eq_false c2]; simp)]
        have e : many k = 0 := (if_neg c).trans (if_neg c2)
        rw [e] at q
        exact q _ s2
end
end Ax

namespace Ax
open PySem PySem.Spec PyProof.Rows L2
open Oc (C Axiom)
/-! ### slices -/
theorem cut_nat {xs : List V} {i j : Nat} (h : j ≤ xs.length) : cutV xs (some (i : Int)) (some (j : Int)) = (xs.drop i).take (j - i) := by
  unfold cutV
  rw [HT.sIx_nat, HT.sIx_nat, Nat.min_eq_left h]
  by_cases c : i ≤ xs.length
  · rw [Nat.min_eq_left c]
  · rw [Nat.min_eq_right (by omega), List.drop_eq_nil_of_le (Nat.le_refl _), List.drop_eq_nil_of_le (show xs.length ≤ i by omega)]
    simp
theorem drop_cons {ns : List Nat} {i x : Nat} (h : ns[i]? = some x) : ns.drop i = x :: ns.drop (i + 1) := by
  obtain ⟨hi, e⟩ := List.getElem?_eq_some_iff.mp h
  rw [List.drop_eq_getElem_cons hi, e]
theorem drop_none {ns : List Nat} {i : Nat} (h : ns[i]? = none) : ns.drop i = [] := List.drop_eq_nil_of_le (List.getElem?_eq_none_iff.mp h)
theorem R_none_hdr {l : List Nat} (h : hdr l = none) : R l = none := by rw [R_eq, h]
/-- the numbers of what was read -/
theorem enc_cut {ns : List Nat} {i : Nat} {c : C} {r : List Nat} (hi : i ≤ ns.length) (h : R (ns.drop i) = some (c, r)) : cutV (ns.map vI) (some (i : Int)) (some ((ns.length - r.length : Nat) : Int)) = (enc c).map vI := by
  have e := (R_is h).1
  have hl : (ns.drop i).length = (enc c).length + r.length := by rw [e, List.length_append]
  rw [List.length_drop] at hl
  rw [cut_nat (by rw [List.length_map]; omega), ← List.map_drop, ← List.map_take, e]
  have : ns.length - r.length - i = (enc c).length := by omega
  rw [this, List.take_left]
section
variable {P : Program} {w : World} {K : PySem.W.Frag} {mg : Str → Option Value} {base : Heap} {A : Ad}
abbrev N_cat : List Str := ["numbers", "at", "kind", "number", "here", "parts", "turn", "part"]
theorem sc_cat : FnScope N_cat ["numbers", "at"] (defScope sCat) := ⟨rfl, rfl, rfl, by decide +kernel, rfl, by decide +kernel, by decide +kernel⟩
theorem eqI (a b : Nat) : decide (V.int (a : Int) = V.int (b : Int)) = decide (a = b) := by
  by_cases h : a = b
  · subst h; simp
  · rw [decide_eq_false h, decide_eq_false]
    intro z
    injection z with z
    omega
theorem dec_true {p : Prop} [Decidable p] {X Y : Prop} (h : p) (x : X) : if decide p = true then X else Y := by
  rw [if_pos (decide_eq_true h)]; exact x
theorem dec_false {p : Prop} [Decidable p] {X Y : Prop} (h : ¬ p) (y : Y) : if decide p = true then X else Y := by
  rw [if_neg (by rw [decide_eq_false h]; simp)]; exact y
theorem cat_step (T : Txt K mg A) (n : Nat) (D : DefOk P w K mg base (L2.CX P w) (n + 4) A.cat ["numbers", "at"] (spCat A K n)) : DefOk P w K mg base (L2.CX P w) (n + 5) A.cat ["numbers", "at"] (spCat A K (n + 1)) := by
  refine T.d_cat.okX sc_cat (fun vs H Q E h => ?_) (fun cdv B outer s H vs Q E hr h => ?_)
  · obtain ⟨a, ns, i, rfl, _⟩ := h
    rfl
  have hr4 : Room 4 _ := hr.mono (by omega)
  have hr2 : Room 2 _ := hr.mono (by omega)
  have hr1 : Room 1 _ := hr.mono (by omega)
  refine ⟨_, pss_cons (ps_set (i := 2) sc_cat.nd rfl (.inl rfl) (dcall (ok_need T) hr4 T.g_need passD (pa_cons (pv 0) (pa_cons (pv 1) (pa_cons (pe_op op_add (gi T.vEVERY) pe_int) pa_nil)))))
    (pss_cons (ps_set (i := 3) sc_cat.nd rfl (.inl rfl) pe_int)
    (pss_cons (ps_set (i := 4) sc_cat.nd rfl (.inl rfl) (pe_op op_add (pv 1) pe_int))
    (C8.pss_cut (ps_if (pt_cmpR op_eq (pv 2) (gi T.vNAME) (nomark _)) (pss_cons (ps_set (i := 3) sc_cat.nd rfl (.inl rfl) (dcall (ok_need T) hr4 T.g_need passD (pa_cons (pv 0) (pa_cons (pv 4) (pa_cons (gi T.vMANY_NAMES) pa_nil))))) (pss_one (ps_aug (i := 4) sc_cat.nd rfl (.inl rfl) pe_int ip_add))) pss_nil)
    (C8.pss_cut (ps_if (pt_cmpR op_in_seq (pv 2) (pe_tup (pa_cons (gi T.vSOME) (pa_cons (gi T.vEVERY) pa_nil))) (by rfl)) (pss_cons (ps_set (i := 3) sc_cat.nd rfl (.inl rfl) (dcall (ok_need T) hr4 T.g_need passD (pa_cons (pv 0) (pa_cons (pv 4) (pa_cons (gi T.vMANY_ROLES) pa_nil))))) (pss_one (ps_aug (i := 4) sc_cat.nd rfl (.inl rfl) pe_int ip_add))) pss_nil)
    (pss_cons (ps_set (i := 5) sc_cat.nd rfl (.inl rfl) (pe_lst pa_nil))
    (pss_cons (ps_for (passes_of rfl) rfl (pi_range1 rfl T.z_range (pa_cons (dcall (ok_mp T) hr1 T.g_mp pass0 (pa_cons (pv 2) pa_nil)) pa_nil)) (pg_name (i := 6) sc_cat.nd rfl (.inl rfl))
      (pss_cons (ps_asg (dcall D hr T.g_cat passD (pa_cons (pv 0) (pa_cons (pv 4) pa_nil))) (pg_tup rfl (pgs_cons (pg_name (i := 7) sc_cat.nd rfl (.inl rfl)) (pgs_cons (pg_name (i := 4) sc_cat.nd rfl (.inl rfl)) pgs_nil))))
        (pss_one (ps_expr (appE (pv 5) (pv 7))))))
    (pss_one (ps_ret (pe_tup (pa_cons (dmake T.mk_c (ok_cI T) hr2 T.g_c pass0 (pa_cons (pv 2) (pa_cons (pv 3) (pa_cons (pv 5) (pa_cons (pe_callTy call_tuple_of rfl T.z_tuple (by decide +kernel) (pa_cons (pe_slice sl_list (pv 0) (po_some (pv 1)) (po_some (pv 4))) pa_nil)) pa_nil))))) (pa_cons (pv 4) pa_nil))))))))))), ?_⟩
  obtain ⟨a, ns, i, rfl, hS, hlen, hi, hn, qN, qS⟩ := h
  -- kind
  refine ⟨_, rfl, _, rfl, _, _, rfl, rfl, a, ns, i, 8, rfl, hS, fun k hk hk8 => ?_, fun hbad => qN (R_none_hdr ?_)⟩
  rotate_left
  · cases e : ns[i]? with
    | none => rw [drop_none e]; rfl
    | some x =>
      rw [drop_cons e]
      show (if x < 8 then _ else none) = none
      rw [if_neg (hbad x e)]
  refine ⟨_, rfl, _, _, rfl, rfl, ?_⟩
  -- the name
  refine ⟨fun σ H' => H' = H ∧ ((k = 2 ∧ ∃ b, ns[i + 1]? = some b ∧ b < 4 ∧ σ = [some (.ref a), some (vI i), some (vI k), some (vI b), some (vI (i + 2)), none, none, none]) ∨
      (k ≠ 2 ∧ σ = [some (.ref a), some (vI i), some (vI k), some (vI 0), some (vI (i + 1)), none, none, none])), ?_, ?_⟩
  · refine ⟨_, rfl, rfl, _, rfl, ?_⟩
    show if decide (V.int (k : Int) = V.int ((2 : Nat) : Int)) = true then _ else _
    rw [eqI]
    by_cases c : k = 2
    · refine dec_true c ⟨_, rfl, _, rfl, a, ns, i + 1, 4, rfl, hS, fun b hb hb4 => ?_, fun hbad => qN (R_none_hdr ?_)⟩
      · exact ⟨_, rfl, _, _, rfl, rfl, rfl, .inl ⟨c, b, hb, hb4, rfl⟩⟩
      · rw [drop_cons hk, c]
        cases e : ns[i + 1]? with
        | none => rw [drop_none e]; rfl
        | some x =>
          rw [drop_cons e]
          show (if x < 4 then _ else none) = none
          rw [if_neg (hbad x e)]
    · exact dec_false c ⟨rfl, .inr ⟨c, rfl⟩⟩
  rintro σ H' ⟨rfl, hmid⟩
  -- the role
  refine ⟨fun σ H2 => ∃ m here, hdr (ns.drop i) = some (k, m, ns.drop here) ∧ here ≤ ns.length ∧ i < here ∧ Same H' H2 ∧ σ = [some (.ref a), some (vI i), some (vI k), some (vI m), some (vI here), none, none, none], ?_, ?_⟩
  · have hlt := (List.getElem?_eq_some_iff.mp hk).1
    rcases hmid with ⟨rfl, b, hb, hb4, rfl⟩ | ⟨c, rfl⟩
    · have hlt2 := (List.getElem?_eq_some_iff.mp hb).1
      refine ⟨_, rfl, (by show 2 ≤ sizeLine; decide), fun p hp => ⟨p, _, rfl, .inr (SqT.of upd_same), rfl, rfl, _, rfl, ?_⟩⟩
      show if inV (vI 2) [vI 6, vI 7] = true then _ else _
      rw [inV2]
      refine dec_false (by omega) ⟨b, i + 2, ?_, by omega, by omega, same_new hp _, rfl⟩
      rw [drop_cons hk, drop_cons hb]
      show (if b < 4 then _ else none) = _
      rw [if_pos hb4]
    · refine ⟨_, rfl, (by show 2 ≤ sizeLine; decide), fun p hp => ⟨p, _, rfl, .inr (SqT.of upd_same), rfl, rfl, _, rfl, ?_⟩⟩
      show if inV (vI k) [vI 6, vI 7] = true then _ else _
      rw [inV2]
      by_cases c2 : k = 6 ∨ k = 7
      · refine dec_true c2 ⟨_, rfl, _, rfl, a, ns, i + 1, 2, rfl, (same_new hp _).seq hS, fun b hb hb2 => ?_, fun hbad => (qN (R_none_hdr ?_)).same (same_new hp _)⟩
        · have hlt2 := (List.getElem?_eq_some_iff.mp hb).1
          refine ⟨_, rfl, _, _, rfl, rfl, b, i + 2, ?_, by omega, by omega, same_new hp _, rfl⟩
          rw [drop_cons hk, drop_cons hb]
          show (if k < 8 then (if k = 2 then _ else if k = 6 ∨ k = 7 then (if b < 2 then _ else none) else _) else _) = _
          rw [if_pos hk8, if_neg c, if_pos c2, if_pos hb2]
        · rw [drop_cons hk]
          show (if k < 8 then (if k = 2 then _ else if k = 6 ∨ k = 7 then _ else _) else _) = none
          rw [if_pos hk8, if_neg c, if_pos c2]
          cases e : ns[i + 1]? with
          | none => rw [drop_none e]
          | some x =>
            rw [drop_cons e]
            show (if x < 2 then _ else none) = none
            rw [if_neg (hbad x e)]
      · refine dec_false c2 ⟨0, i + 1, ?_, by omega, by omega, same_new hp _, rfl⟩
        rw [drop_cons hk]
        show (if k < 8 then (if k = 2 then _ else if k = 6 ∨ k = 7 then _ else _) else _) = _
        rw [if_pos hk8, if_neg c, if_neg c2]
  rintro σ H2 ⟨m, here, hh, hle, hih, s2, rfl⟩
  -- parts = []
  refine ⟨(by show 0 ≤ sizeLine; decide), fun pl hpl => ?_⟩
  refine ⟨_, rfl, k, rfl, fun H3 s3 => ⟨_, rfl, ?_, ?_, ?_⟩⟩
  · have : many k ≤ 2 := by unfold many; split; omega; split <;> omega
    omega
  · have : many k ≤ 2 := by unfold many; split; omega; split <;> omega
    omega
  have eR : R (ns.drop i) = (Rs (many k) (ns.drop here)).map (mkP k m) := by rw [R_eq, hh]
  have sH3 : Same H' H3 := (same_upd s2 (s2.free hpl) _).trans s3
  have hplH : H' pl = none := s2.free hpl
  refine for_range (lo := 0) (n := ((many k : Nat) : Int).toNat) (fun j σ H4 => ∃ cs r us v6 v7, Rs j (ns.drop here) = some (cs, r) ∧ σ = [some (.ref a), some (vI i), some (vI k), some (vI m), some (vI (ns.length - r.length)), some (.ref pl), v6, v7] ∧
      Same H' H4 ∧ H4 pl = some (.lst us) ∧ CsAt A.c (del (Nw H' H4) pl) cs us) ?_ ?_ ?_
  · refine ⟨[], ns.drop here, [], none, none, rfl, ?_, sH3, s3 _ _ upd_same, .nil⟩
    have : ns.length - (ns.drop here).length = here := by rw [List.length_drop]; omega
    rw [this]
    rfl
  · rintro j σ H4 hj ⟨cs, r, us, v6, v7, hR, rfl, s4, hu, hC⟩
    have hj' : j < many k := by omega
    have er := (Rs_is hR).1
    have hrl : r.length ≤ ns.length - here := by
      have := Rs_len hR
      rw [List.length_drop] at this
      exact this
    have hdrop : ns.drop (ns.length - r.length) = r := by
      have e1 : ns = ns.take here ++ (cs.flatMap enc ++ r) := by rw [← er, List.take_append_drop]
      have e2 : ns.length - r.length = (ns.take here ++ cs.flatMap enc).length := by
        have := congrArg List.length e1
        rw [List.length_append, List.length_append] at this
        rw [List.length_append]
        omega
      rw [e2]
      conv => lhs; arg 2; rw [e1, ← List.append_assoc]
      rw [List.drop_left]
    refine ⟨_, rfl, _, rfl, a, ns, ns.length - r.length, rfl, s4.seq hS, hlen, by omega, by omega, fun hnone => ?_, fun c r2 hsome t H5 v s5 ht5 htup hCat => ?_⟩
    · -- the call refuses
      rw [hdrop] at hnone
      refine (qN ?_).same s4
      rw [eR]
      have hnext : Rs (j + 1) (ns.drop here) = none := by
        rw [show Rs (j + 1) (ns.drop here) = _ from Rs_snoc j (ns.drop here)]
        rw [show seqR R j (ns.drop here) = some (cs, r) from hR]
        show (R r).map _ = none
        rw [hnone]; rfl
      have up : ∀ d, Rs (j + 1 + d) (ns.drop here) = none := by
        intro d
        induction d with
        | zero => exact hnext
        | succ d ih =>
          rw [show j + 1 + (d + 1) = (j + 1 + d) + 1 from rfl]
          rw [show Rs (j + 1 + d + 1) (ns.drop here) = _ from Rs_snoc (j + 1 + d) (ns.drop here)]
          rw [show seqR R (j + 1 + d) (ns.drop here) = none from ih]
      have e3 : many k = j + 1 + (many k - (j + 1)) := by omega
      rw [e3, up]
      rfl
    · rw [hdrop] at hsome
      refine ⟨t, _, rfl, SqT.of htup, rfl, v, _, rfl, _, _, rfl, rfl, ?_⟩
      have hpl5 : H5 pl = some (.lst us) := s5 _ _ hu
      have hz : us.length < sizeLine := by
        have h1 := hC.length
        have h2 := Rs_count hR
        have h3 : many k ≤ 2 := by unfold many; split; omega; split <;> omega
        exact small1000 (by omega)
      refine ⟨_, rfl, .inl ⟨rfl, _, SqL.of hpl5⟩, _, rfl, pl, us, _, rfl, rfl, hpl5, hz, ?_⟩
      refine ⟨cs ++ [c], r2, us ++ [v], some (.int (0 + (j : Int))), some v, ?_, ?_, ?_, upd_same, ?_⟩
      · rw [show Rs (j + 1) (ns.drop here) = _ from Rs_snoc j (ns.drop here)]
        rw [show seqR R j (ns.drop here) = some (cs, r) from hR]
        show (R r).map _ = _
        rw [hsome]; rfl
      · rfl
      · exact same_upd (s4.trans s5) hplH _
      · have sub1 : Kp (del (Nw H' H4) pl) (del (Nw H' (upd H5 pl (.lst (us ++ [v])))) pl) := fun b o e _ => by
          by_cases hb : b = pl
          · rw [hb, del_same] at e; cases e
          · rw [del_ne hb] at e ⊢
            obtain ⟨e1, e2⟩ := of_nw e
            exact nw_of e1 (by rw [upd_ne hb]; exact s5 _ _ e2)
        have sub2 : Kp (Nw H4 H5) (del (Nw H' (upd H5 pl (.lst (us ++ [v])))) pl) := fun b o e _ => by
          obtain ⟨e1, e2⟩ := of_nw e
          have hb : b ≠ pl := fun z => by rw [z, hu] at e1; cases e1
          rw [del_ne hb]
          exact nw_of (s4.free e1) (by rw [upd_ne hb]; exact e2)
        exact Paired.snoc (hC.kp sub1) (hCat.kp sub2)
  · rintro σ H4 ⟨cs, r, us, v6, v7, hR, rfl, s4, hu, hC⟩
    have hR' : Rs (many k) (ns.drop here) = some (cs, r) := by
      have : ((many k : Nat) : Int).toNat = many k := Int.toNat_natCast _
      rw [this] at hR
      exact hR
    have eS : R (ns.drop i) = some (mkC k m cs, r) := by rw [eR, hR']; rfl
    have hkm := mkC_kind (k := k) (n := m) (cs := cs) (by
      rcases hdr_cases hh with ⟨h1, h2, _⟩ | ⟨h1, h2, _⟩ | ⟨h1, _, h2⟩
      · exact .inl ⟨h1, h2⟩
      · exact .inr (.inl ⟨h1, h2⟩)
      · exact .inr (.inr ⟨h1, h2⟩)) (Rs_count hR')
    -- the slice, the tuple
    refine ⟨_, rfl, _, rfl, _, rfl, _, rfl, _, rfl, _, rfl, _, rfl, _, rfl, a, _, rfl, s4.seq hS, fun sl hsl => ?_⟩
    refine ⟨sl, _, rfl, .inl ⟨SqL.of upd_same, fun tp htp => ?_⟩⟩
    -- the concept
    intro x dx hx hdx hne
    refine ⟨x, dx, _, _, _, _, rfl, upd_same, rfl, _, rfl, (by show 2 ≤ sizeLine; decide), fun t ht => ?_⟩
    rw [enc_cut hi eS] at htp hx hdx ht ⊢
    have n1 : Same H4 (upd H4 sl (.lst ((enc (mkC k m cs)).map vI))) := same_new hsl _
    have n2 := n1.trans (same_new htp (.tup ((enc (mkC k m cs)).map vI)))
    have hH6 : upd (upd H4 sl (.lst ((enc (mkC k m cs)).map vI))) tp (.tup ((enc (mkC k m cs)).map vI)) tp = some (.tup ((enc (mkC k m cs)).map vI)) := upd_same
    generalize upd (upd H4 sl (.lst ((enc (mkC k m cs)).map vI))) tp (.tup ((enc (mkC k m cs)).map vI)) = H6 at *
    have hx3 : upd H6 dx (.own x) x = none := by
      rw [upd_ne (Ne.symm hne)]; exact hx
    have n4 : Same H6 (upd (upd (upd H6 dx (.own x)) x (.ins A.c dx [])) x (.ins A.c dx (cF (vI k) (vI m) (.ref pl) (.ref tp)))) := by
      rw [upd_upd]
      exact (same_new hdx (.own x)).trans (same_new hx3 _)
    have hH8 : upd (upd (upd H6 dx (.own x)) x (.ins A.c dx [])) x (.ins A.c dx (cF (vI k) (vI m) (.ref pl) (.ref tp))) x = some (.ins A.c dx (cF (vI k) (vI m) (.ref pl) (.ref tp))) := upd_same
    generalize upd (upd (upd H6 dx (.own x)) x (.ins A.c dx [])) x (.ins A.c dx (cF (vI k) (vI m) (.ref pl) (.ref tp))) = H8 at *
    have n5 := same_new ht (.tup [.ref x, vI (ns.length - r.length)])
    have n6 := s4.trans (n2.trans n4)
    refine qS _ r eS t _ (.ref x) (n6.trans n5) (n6.free ht) upd_same ?_
    have e1 : Nw H' (upd H8 t (.tup [.ref x, vI (ns.length - r.length)])) x = some (.ins A.c dx (cF (vI k) (vI m) (.ref pl) (.ref tp))) := nw_of ((s4.trans n2).free hx) (n5 _ _ hH8)
    have e2 : Nw H' (upd H8 t (.tup [.ref x, vI (ns.length - r.length)])) pl = some (.lst us) := nw_of hplH (n5 _ _ (n4 _ _ (n2 _ _ hu)))
    have e3 : Nw H' (upd H8 t (.tup [.ref x, vI (ns.length - r.length)])) tp = some (.tup ((enc (mkC k m cs)).map vI)) := nw_of ((s4.trans n1).free htp) (n5 _ _ (n4 _ _ hH6))
    refine CAt.mk (ps := us) ⟨x, dx, pl, tp, rfl, ?_, e2, e3⟩ ?_
    · rw [hkm.1, hkm.2.1]; exact e1
    · rw [hkm.2.2]
      refine hC.kp fun b o e _ => ?_
      by_cases hb : b = pl
      · rw [hb, del_same] at e; cases e
      · rw [del_ne hb] at e
        obtain ⟨z1, z2⟩ := of_nw e
        exact nw_of z1 (n5 _ _ (n4 _ _ (n2 _ _ z2)))
theorem cat_ok (T : Txt K mg A) : ∀ n : Nat, DefOk P w K mg base (L2.CX P w) (n + 4) A.cat ["numbers", "at"] (spCat A K n)
  | 0 => by
    have no : ∀ vs H Q E, ¬ spCat A K 0 vs H Q E := fun vs H Q E h => by
      obtain ⟨a, ns, i, _, _, _, h1, h2, _⟩ := h
      omega
    obtain ⟨fd, F, b⟩ := T.d_cat.ex
    exact ⟨⟨fd, ⟨fun vs H Q E h => absurd h (no vs H Q E), fun A outer s H args us vs Q E _ _ _ _ h => absurd h (no vs H Q E)⟩, b⟩, T.d_cat.kp⟩
  | n + 1 => cat_step T n (cat_ok T n)
abbrev N_co : List Str := ["numbers", "many", "found", "here", "turn", "concept"]
theorem sc_co : FnScope N_co ["numbers", "many"] (defScope sCo) := ⟨rfl, rfl, rfl, by decide +kernel, rfl, by decide +kernel, by decide +kernel⟩
theorem drop_back {ns : List Nat} {cs : List C} {r : List Nat} {j i : Nat} (hi : i ≤ ns.length) (h : Rs j (ns.drop i) = some (cs, r)) : ns.drop (ns.length - r.length) = r ∧ r.length ≤ ns.length - i := by
  have er := (Rs_is h).1
  have hrl : r.length ≤ ns.length - i := by
    have := Rs_len h
    rw [List.length_drop] at this
    exact this
  refine ⟨?_, hrl⟩
  have e1 : ns = ns.take i ++ (cs.flatMap enc ++ r) := by rw [← er, List.take_append_drop]
  have e2 : ns.length - r.length = (ns.take i ++ cs.flatMap enc).length := by
    have := congrArg List.length e1
    rw [List.length_append, List.length_append] at this
    rw [List.length_append]
    omega
  rw [e2]
  conv => lhs; arg 2; rw [e1, ← List.append_assoc]
  rw [List.drop_left]
theorem Rs_stuck {l : List Nat} {j : Nat} (h : Rs j l = none) : ∀ d, Rs (j + d) l = none
  | 0 => h
  | d + 1 => by
    rw [show Rs (j + (d + 1)) l = _ from Rs_snoc (j + d) l]
    rw [show seqR R (j + d) l = none from Rs_stuck h d]
theorem Rs_next {l : List Nat} {j : Nat} {cs : List C} {r : List Nat} (h : Rs j l = some (cs, r)) : Rs (j + 1) l = (R r).map (snocC cs) := by
  rw [show Rs (j + 1) l = _ from Rs_snoc j l]
  rw [show seqR R j l = some (cs, r) from h]
theorem ok_co (T : Txt K mg A) : DefOk P w K mg base (L2.CX P w) 36 A.co ["numbers", "many"] (spCo A K) := by
  have D : DefOk P w K mg base (L2.CX P w) 35 A.cat ["numbers", "at"] (spCat A K 31) := cat_ok T 31
  refine T.d_co.okX sc_co (fun vs H Q E h => ?_) (fun cdv B outer s H vs Q E hr h => ?_)
  · obtain ⟨a, ns, i, rfl, _⟩ := h
    rfl
  have hr3 : Room 3 _ := hr.mono (by omega)
  refine ⟨_, pss_cons (ps_set (i := 2) sc_co.nd rfl (.inl rfl) (pe_lst pa_nil)) (pss_cons (ps_set (i := 3) sc_co.nd rfl (.inl rfl) pe_int)
    (pss_cons (ps_for (passes_of rfl) rfl (pi_range1 rfl T.z_range (pa_cons (pv 1) pa_nil)) (pg_name (i := 4) sc_co.nd rfl (.inl rfl))
      (pss_cons (ps_asg (dcall D hr T.g_cat passD (pa_cons (pv 0) (pa_cons (pv 3) pa_nil))) (pg_tup rfl (pgs_cons (pg_name (i := 5) sc_co.nd rfl (.inl rfl)) (pgs_cons (pg_name (i := 3) sc_co.nd rfl (.inl rfl)) pgs_nil))))
        (pss_one (ps_expr (appE (pv 2) (pv 5))))))
    (pss_cons (ps_expr (dcall (ok_ask T) hr3 T.g_ask passD (pa_cons (pe_cmpR op_eq (pv 3) (lenE T.z_len (pv 0)) (nomark _)) (pa_cons (gi T.vBAD) pa_nil))))
    (pss_one (ps_ret (pv 2)))))), ?_⟩
  obtain ⟨a, ns, m, rfl, hS, hlen, hm, qN, qS⟩ := h
  refine ⟨(by show 0 ≤ sizeLine; decide), fun pl hpl => ?_⟩
  have h0 : Same H (upd H pl (.lst [])) := same_new hpl _
  refine ⟨_, rfl, _, rfl, by omega, by omega, ?_⟩
  refine for_range (lo := 0) (n := ((m : Nat) : Int).toNat) (fun j σ H4 => ∃ cs r us v4 v5, Rs j ns = some (cs, r) ∧ σ = [some (.ref a), some (vI m), some (.ref pl), some (vI (ns.length - r.length)), v4, v5] ∧
      Same H H4 ∧ H4 pl = some (.lst us) ∧ CsAt A.c (del (Nw H H4) pl) cs us) ?_ ?_ ?_
  · refine ⟨[], ns, [], none, none, rfl, ?_, h0, upd_same, .nil⟩
    rw [Nat.sub_self]
    rfl
  · rintro j σ H4 hj ⟨cs, r, us, v4, v5, hR, rfl, s4, hu, hC⟩
    obtain ⟨hdrop, hrl⟩ := drop_back (Nat.zero_le _) (by rw [List.drop_zero]; exact hR)
    refine ⟨_, rfl, _, rfl, a, ns, ns.length - r.length, rfl, s4.seq hS, by omega, by omega, by omega, fun hnone => ?_, fun c r2 hsome t H5 v s5 ht5 htup hCat => ?_⟩
    · rw [hdrop] at hnone
      refine (qN fun cs' z => ?_).same s4
      have hnext : Rs (j + 1) ns = none := by rw [Rs_next hR, hnone]; rfl
      have e3 : m = j + 1 + (m - (j + 1)) := by omega
      rw [e3, Rs_stuck hnext] at z
      cases z
    · rw [hdrop] at hsome
      refine ⟨t, _, rfl, SqT.of htup, rfl, v, _, rfl, _, _, rfl, rfl, ?_⟩
      have hpl5 : H5 pl = some (.lst us) := s5 _ _ hu
      have hz : us.length < sizeLine := by
        have h1 := hC.length
        have h2 := Rs_count hR
        exact small1000 (by omega)
      refine ⟨_, rfl, .inl ⟨rfl, _, SqL.of hpl5⟩, _, rfl, pl, us, _, rfl, rfl, hpl5, hz, ?_⟩
      refine ⟨cs ++ [c], r2, us ++ [v], some (.int (0 + (j : Int))), some v, ?_, rfl, same_upd (s4.trans s5) hpl _, upd_same, ?_⟩
      · rw [Rs_next hR, hsome]; rfl
      · have sub1 : Kp (del (Nw H H4) pl) (del (Nw H (upd H5 pl (.lst (us ++ [v])))) pl) := fun b o e _ => by
          by_cases hb : b = pl
          · rw [hb, del_same] at e; cases e
          · rw [del_ne hb] at e ⊢
            obtain ⟨e1, e2⟩ := of_nw e
            exact nw_of e1 (by rw [upd_ne hb]; exact s5 _ _ e2)
        have sub2 : Kp (Nw H4 H5) (del (Nw H (upd H5 pl (.lst (us ++ [v])))) pl) := fun b o e _ => by
          obtain ⟨e1, e2⟩ := of_nw e
          have hb : b ≠ pl := fun z => by rw [z, hu] at e1; cases e1
          rw [del_ne hb]
          exact nw_of (s4.free e1) (by rw [upd_ne hb]; exact e2)
        exact Paired.snoc (hC.kp sub1) (hCat.kp sub2)
  · rintro σ H4 ⟨cs, r, us, v4, v5, hR, rfl, s4, hu, hC⟩
    rw [Int.toNat_natCast] at hR
    obtain ⟨hdrop, hrl⟩ := drop_back (Nat.zero_le _) (by rw [List.drop_zero]; exact hR)
    refine ⟨_, rfl, _, rfl, a, _, rfl, .inl (s4.seq hS), rfl, _, -1, rfl, fun hb => ?_, fun hb => ?_⟩
    · have hr0 : r = [] := by
        have hb' : decide (V.int ((ns.length - r.length : Nat) : Int) = V.int (((ns.map vI).length : Nat) : Int)) = true := hb
        rw [eqI, List.length_map] at hb'
        have := of_decide_eq_true hb'
        exact List.length_eq_zero_iff.mp (by omega)
      subst hr0
      refine ⟨_, rfl, qS cs hR pl H4 us s4 hpl hu (hC.kp fun b o e _ => ?_)⟩
      by_cases hb : b = pl
      · rw [hb, del_same] at e; cases e
      · rw [del_ne hb] at e
        exact (of_nw e).2
    · have hb' : decide (V.int ((ns.length - r.length : Nat) : Int) = V.int (((ns.map vI).length : Nat) : Int)) = false := hb
      rw [eqI, List.length_map] at hb'
      have h1 := of_decide_eq_false hb'
      refine (qN fun cs' z => ?_).same s4
      rw [hR] at z
      cases z
      simp at h1
end
end Ax

namespace Ax
open PySem PySem.Spec PyProof.Rows L2
open Oc (C Axiom)
theorem cut_last (xs : List V) (x : V) : cutV (xs ++ [x]) none (some (-1)) = xs := by
  unfold cutV
  have h1 : HT.sIx (xs ++ [x]).length 0 none = 0 := rfl
  have h2 : HT.sIx (xs ++ [x]).length (xs ++ [x]).length (some (-1)) = xs.length := by
    have e := HT.clip_eq (-1) (xs ++ [x]).length (xs ++ [x]).length
    rw [if_pos (by decide)] at e
    rw [List.length_append, List.length_singleton] at e ⊢
    omega
  rw [h1, h2, List.drop_zero, Nat.sub_zero, List.take_left]
theorem paired_snoc {α β : Type} {F : α → β → Prop} : ∀ {l : List α} {m : List β}, Paired F l m → l ≠ [] → ∃ l' x m' y, l = l' ++ [x] ∧ m = m' ++ [y] ∧ Paired F l' m' ∧ F x y
  | _, _, .nil, h => absurd rfl h
  | [a], [b], .cons r .nil, _ => ⟨[], a, [], b, rfl, rfl, .nil, r⟩
  | a :: c :: l, b :: d :: m, .cons r t, _ => by
    obtain ⟨l', x, m', y, e1, e2, q, z⟩ := paired_snoc t (by simp)
    exact ⟨a :: l', x, b :: m', y, by rw [e1]; rfl, by rw [e2]; rfl, .cons r q, z⟩
theorem paired_append {α β : Type} {F : α → β → Prop} : ∀ {l l' : List α} {m m' : List β}, Paired F l m → Paired F l' m' → Paired F (l ++ l') (m ++ m')
  | _, _, _, _, .nil, h => h
  | _, _, _, _, .cons r t, h => .cons r (paired_append t h)
theorem paired_at {α β : Type} {F : α → β → Prop} : ∀ {l : List α} {m : List β} {i : Nat} {y : β}, Paired F l m → m[i]? = some y → ∃ x, l[i]? = some x ∧ F x y
  | _, _, i, y, .nil, h => by simp at h
  | _, _, 0, y, .cons r t, h => by
    simp at h
    subst h
    exact ⟨_, by simp, r⟩
  | _, _, i + 1, y, .cons r t, h => by
    obtain ⟨x, e, q⟩ := paired_at (i := i) t (by simpa using h)
    exact ⟨x, by simpa using e, q⟩
def spAll (A : Ad) (K : PySem.W.Frag) : Sp := fun vs H Q _ => ∃ (a : Addr) (cs : List C) (us : List V) (G : Hp), vs = [.ref a] ∧ SqL K H a us ∧ Same G H ∧ CsAt A.c G cs us ∧ szs cs ≤ 1000 ∧
  ∀ l H' ws, Same H H' → H l = none → H' l = some (.lst ws) → CsAt A.c G (allIn cs) ws → Q (.ref l) H'
/-- a concept's numbers as a key -/
def keyC (c : C) : List Key := (enc c).map fun (n : Nat) => (Sum.inl (n : Int) : Key)
theorem keyC_kV (c : C) : (keyC c).map kV = (enc c).map vI := by
  unfold keyC
  rw [List.map_map]
  rfl
theorem keyC_inj {c d : C} (h : keyC c = keyC d) : c = d := by
  apply enc_inj
  have q := congrArg (List.map kV) h
  rw [keyC_kV, keyC_kV] at q
  exact (List.map_inj_right fun a b e => vI_inj e).mp q
def spAtoms (A : Ad) (K : PySem.W.Frag) : Sp := fun vs H Q _ => ∃ (a : Addr) (cs : List C) (us : List V) (G : Hp), vs = [.ref a] ∧ SqL K H a us ∧ Same G H ∧ CsAt A.c G cs us ∧ szs cs ≤ 1000 ∧
  ∀ l H' ws, Same H H' → H l = none → H' l = some (.lst ws) → CsAt A.c G (atomsP cs) ws → Q (.ref l) H'
def bitsP (ks : List Nat) (cs : List C) : Nat := (allIn cs).foldl (fun m c => if kindOf c ∈ ks then m ||| 2 ^ numOf c else m) 0
def spBits (A : Ad) (K : PySem.W.Frag) : Sp := fun vs H Q _ => ∃ (a b : Addr) (cs : List C) (us : List V) (ks : List Nat), vs = [.ref a, .ref b] ∧ SqL K H a us ∧ CsAt A.c H cs us ∧ szs cs ≤ 1000 ∧ SqT K H b (ks.map vI) ∧ (∀ c ∈ cs, okC c = true) ∧
  ∀ H', Same H H' → Q (vI (bitsP ks cs)) H'
def spSig (A : Ad) (K : PySem.W.Frag) : Sp := fun vs H Q _ => ∃ (a : Addr) (cs : List C) (us : List V), vs = [.ref a] ∧ SqL K H a us ∧ CsAt A.c H cs us ∧ szs cs ≤ 1000 ∧ (∀ c ∈ cs, okC c = true) ∧
  ∀ t H', Same H H' → H t = none → H' t = some (.tup [vI (bitsP [2] cs), vI (bitsP [6, 7] cs)]) → Q (.ref t) H'
theorem same_seqT {K : PySem.W.Frag} {H H' : Hp} {a : Addr} {xs : List V} (e : Same H H') (h : SqT K H a xs) : SqT K H' a xs := by
  rcases h with (h | ⟨o, h⟩) | h
  · exact .inl (.inl (e _ _ h))
  · exact .inl (.inr ⟨o, e _ _ h⟩)
  · exact .inr h
theorem bitOr_nat (a b : Nat) : Builtin.bitOr (a : Int) (b : Int) = ((a ||| b : Nat) : Int) := by
  rw [Bits.bitOr_pp (Int.natCast_nonneg a) (Int.natCast_nonneg b), Int.toNat_natCast, Int.toNat_natCast]
theorem shl_nat (n : Nat) : (1 : Int) * 2 ^ ((n : Int)).toNat = ((2 ^ n : Nat) : Int) := by
  rw [Int.toNat_natCast, Int.one_mul, Int.natCast_pow]; rfl
theorem or_shl (a n : Nat) : V.int (Builtin.bitOr (a : Int) ((1 : Int) * 2 ^ ((n : Int)).toNat)) = vI (a ||| 2 ^ n) := by rw [shl_nat, bitOr_nat]; rfl
theorem okC_small : ∀ {c : C}, okC c = true → numOf c < 4
  | .top, _ => by decide
  | .bot, _ => by decide
  | .name a, h => of_decide_eq_true h
  | .and _ _, _ => by show 0 < 4; decide
  | .or _ _, _ => by show 0 < 4; decide
  | .not _, _ => by show 0 < 4; decide
  | .some r c, h => by
    have h' : (decide (r < 2) && okC c) = true := h
    rw [Bool.and_eq_true] at h'
    have := of_decide_eq_true h'.1
    show r < 4
    omega
  | .all r c, h => by
    have h' : (decide (r < 2) && okC c) = true := h
    rw [Bool.and_eq_true] at h'
    have := of_decide_eq_true h'.1
    show r < 4
    omega
theorem okC_subs : ∀ (c : C), okC c = true → ∀ x ∈ subs c, okC x = true
  | .top, h, x, hx => by rw [List.mem_singleton.mp hx]; exact h
  | .bot, h, x, hx => by rw [List.mem_singleton.mp hx]; exact h
  | .name a, h, x, hx => by rw [List.mem_singleton.mp hx]; exact h
  | .and c d, h, x, hx => by
    have h' : (okC c && okC d) = true := h
    rw [Bool.and_eq_true] at h'
    rcases List.mem_cons.mp hx with e | hx
    · rw [e]; exact h
    · rcases List.mem_append.mp hx with q | q
      · exact okC_subs d h'.2 x q
      · exact okC_subs c h'.1 x q
  | .or c d, h, x, hx => by
    have h' : (okC c && okC d) = true := h
    rw [Bool.and_eq_true] at h'
    rcases List.mem_cons.mp hx with e | hx
    · rw [e]; exact h
    · rcases List.mem_append.mp hx with q | q
      · exact okC_subs d h'.2 x q
      · exact okC_subs c h'.1 x q
  | .not c, h, x, hx => by
    rcases List.mem_cons.mp hx with e | hx
    · rw [e]; exact h
    · exact okC_subs c h x hx
  | .some r c, h, x, hx => by
    have h' : (decide (r < 2) && okC c) = true := h
    rw [Bool.and_eq_true] at h'
    rcases List.mem_cons.mp hx with e | hx
    · rw [e]; exact h
    · exact okC_subs c h'.2 x hx
  | .all r c, h, x, hx => by
    have h' : (decide (r < 2) && okC c) = true := h
    rw [Bool.and_eq_true] at h'
    rcases List.mem_cons.mp hx with e | hx
    · rw [e]; exact h
    · exact okC_subs c h'.2 x hx
theorem inVn (k : Nat) : ∀ ks : List Nat, inV (vI k) (ks.map vI) = decide (k ∈ ks)
  | [] => rfl
  | a :: r => by
    have ih := inVn k r
    unfold inV at ih ⊢
    rw [List.map_cons, List.any_cons, ih]
    have e : eqV (vI a) (vI k) = decide (k = a) := by
      show decide ((a : Int) = (k : Int)) = _
      by_cases h : k = a
      · subst h; simp
      · rw [decide_eq_false h, decide_eq_false (by omega)]
    rw [e]
    by_cases h1 : k = a <;> by_cases h2 : k ∈ r <;> simp [h1, h2]
theorem flat_ints (ks : List Nat) : (ks.map vI).all flatV = true := by
  rw [List.all_eq_true]
  intro x hx
  obtain ⟨n, _, rfl⟩ := List.mem_map.mp hx
  rfl
section
variable {P : Program} {w : World} {K : PySem.W.Frag} {mg : Str → Option Value} {base : Heap} {A : Ad}
theorem sc_all : FnScope ["concepts", "found", "left", "concept"] ["concepts"] (defScope sAll) := ⟨rfl, rfl, rfl, by decide +kernel, rfl, by decide +kernel, by decide +kernel⟩
theorem ok_all (T : Txt K mg A) : DefOk P w K mg base CX0 1 A.all ["concepts"] (spAll A K) := by
  refine T.d_all.ok sc_all (fun vs H Q E h => ?_) (fun cdv B outer s H vs Q E hr h => ⟨_, pss_cons (ps_set (i := 1) sc_all.nd rfl (.inl rfl) (pe_lst pa_nil))
    (pss_cons (ps_set (i := 2) sc_all.nd rfl (.inl rfl) (pe_callTy call_list_of rfl T.z_list (by decide +kernel) (pa_cons (pv 0) pa_nil)))
    (pss_cons (ps_while PassesOwn.never (pt_cmpR op_gt (lenE T.z_len (pv 2)) pe_int (nomark _))
      (pss_cons (ps_set (i := 3) sc_all.nd rfl (.inl rfl) (pe_ix ix_list (pv 2) (pe_un un_neg pe_int) (fun _ _ => rfl)))
      (pss_cons (ps_set (i := 2) sc_all.nd rfl (.inl rfl) (pe_op op_cat (pe_slice sl_list (pv 2) po_none (po_some (pe_un un_neg pe_int))) (pe_fld (pv 3) rfl)))
      (pss_one (ps_expr (appE (pv 1) (pv 3)))))))
    (pss_one (ps_ret (pv 1))))), ?_⟩)
  · obtain ⟨a, cs, us, G, rfl, _⟩ := h
    rfl
  · obtain ⟨a, cs, us, G, rfl, hS, sG, hC, hz, q⟩ := h
    refine ⟨(by show 0 ≤ sizeLine; decide), fun fl hfl => ?_⟩
    have s0 : Same H (upd H fl (.lst [])) := same_new hfl _
    refine ⟨_, rfl, a, us, rfl, .inl (s0.seq hS), fun ll hll => ?_⟩
    have hne : ll ≠ fl := fun z => by rw [z, upd_same] at hll; cases hll
    refine ⟨fun m σ H' => ∃ (l : Addr) (ls : List C) (lv : List V) (fs : List C) (fv : List V) (x : Option V), m = szs ls ∧ σ = [some (.ref a), some (.ref fl), some (.ref l), x] ∧ Same H H' ∧ H' fl = some (.lst fv) ∧ H' l = some (.lst lv) ∧ l ≠ fl ∧ H l = none ∧
      CsAt A.c G fs fv ∧ CsAt A.c G ls lv ∧ fs ++ allIn ls = allIn cs ∧ fs.length + szs ls ≤ 1000, ?_, ?_⟩
    · refine ⟨szs cs, ll, cs, us, [], [], none, rfl, rfl, s0.trans (same_new hll _), ?_, upd_same, hne, s0.free hll, .nil, hC, rfl, by simpa using hz⟩
      rw [upd_ne (Ne.symm hne), upd_same]
    · rintro m σ H' ⟨l, ls, lv, fs, fv, x, rfl, rfl, s1, hf, hl, hlf, hHl, hF, hL, hsum, hbd⟩
      refine ⟨_, rfl, l, lv, rfl, .inl (SqL.of hl), _, _, rfl, rfl, _, rfl, ?_⟩
      by_cases c : ls = []
      · subst c
        have e : lv = [] := List.length_eq_zero_iff.mp hL.length.symm
        subst e
        refine iteF ⟨_, rfl, ?_⟩
        rw [allIn_nil, List.append_nil] at hsum
        exact q fl H' fv s1 hfl hf (hsum ▸ hF)
      · obtain ⟨ls', c', lv', v, rfl, rfl, hL', hv⟩ := paired_snoc hL c
        have hpos : decide ((0 : Int) < (((lv' ++ [v]).length : Nat) : Int)) = true := decide_eq_true (by rw [List.length_append, List.length_singleton]; omega)
        show if decide ((0 : Int) < (((lv' ++ [v]).length : Nat) : Int)) = true then _ else _
        rw [if_pos hpos]
        refine ⟨fun σ' H2 => ∃ (l : Addr) (lv : List V) (fv : List V) (x : Option V), σ' = [some (.ref a), some (.ref fl), some (.ref l), x] ∧ Same H H2 ∧ H2 fl = some (.lst fv) ∧ H2 l = some (.lst lv) ∧ l ≠ fl ∧ H l = none ∧
          CsAt A.c G (fs ++ [c']) fv ∧ CsAt A.c G (ls' ++ parts c') lv, ?_, ?_⟩
        · rintro σ' H2 ⟨l2, lv2, fv2, x2, rfl, h1, h2, h3, h4, h5, h6, h7⟩
          refine ⟨szs (ls' ++ parts c'), szs_snoc ls' c', l2, _, lv2, _, fv2, x2, rfl, rfl, h1, h2, h3, h4, h5, h6, h7, ?_, ?_⟩
          · rw [← hsum, allIn_snoc, List.append_assoc]; rfl
          · have := szs_snoc ls' c'
            rw [List.length_append, List.length_singleton]
            omega
        · obtain ⟨ca, dx, pl, pt, ps, rfl, h1, h2, h3, h4⟩ := hv.obj
          refine ⟨_, rfl, _, rfl, l, _, _, _, rfl, rfl, SqL.of hl, atI_last lv' _, ?_⟩
          refine ⟨_, rfl, _, rfl, _, rfl, l, _, rfl, SqL.of hl, fun p hp => ?_⟩
          rw [cut_last]
          have s2 : Same H (upd H' p (.lst lv')) := same_upd s1 (s1.free hp) _
          refine ⟨_, rfl, ca, A.c, dx, _, _, rfl, s2 _ _ (sG _ _ h1), T.cl_c, T.n_c_parts, cF_parts, ?_⟩
          have hlen : lv'.length + ps.length ≤ sizeLine := by
            have e1 := hL'.length
            have e2 := h4.length
            have e3 := len_szs (ls' ++ parts c')
            have e4 := szs_snoc ls' c'
            rw [List.length_append] at e3
            exact Nat.le_of_lt (small1000 (by omega))
          refine ⟨p, pl, lv', ps, rfl, rfl, upd_same, s2 _ _ (sG _ _ h2), hlen, fun p2 hp2 => ?_⟩
          have s3 : Same H (upd (upd H' p (.lst lv')) p2 (.lst (lv' ++ ps))) := s2.trans (same_new hp2 _)
          have hpf : fl ≠ p := fun z => by rw [← z] at hp; rw [hf] at hp; cases hp
          have hp2f : fl ≠ p2 := fun z => by rw [← z, upd_ne hpf, hf] at hp2; cases hp2
          have hf3 : upd (upd H' p (.lst lv')) p2 (.lst (lv' ++ ps)) fl = some (.lst fv) := by rw [upd_ne hp2f, upd_ne hpf]; exact hf
          refine ⟨_, rfl, .inl ⟨rfl, _, SqL.of hf3⟩, _, rfl, fl, fv, _, rfl, rfl, hf3, ?_, ?_⟩
          · have e1 := hF.length
            exact small1000 (by omega)
          · refine ⟨p2, lv' ++ ps, fv ++ [.ref ca], _, rfl, same_upd s3 hfl _, upd_same, ?_, Ne.symm hp2f, s2.free hp2, Paired.snoc hF hv, paired_append hL' h4⟩
            rw [upd_ne (Ne.symm hp2f), upd_same]
theorem sc_atoms : FnScope ["concepts", "found", "known", "concept"] ["concepts"] (defScope sAtoms) := ⟨rfl, rfl, rfl, by decide +kernel, rfl, by decide +kernel, by decide +kernel⟩
theorem valV_keys (c : C) : ∀ fs : List C, (valV (fs.map fun d => (keyC d, V.bl true)) (keyC c)).isSome = fs.contains c
  | [] => rfl
  | d :: r => by
    by_cases e : keyC d = keyC c
    · rw [List.map_cons, valV_pos e]
      have := keyC_inj e
      subst this
      simp
    · rw [List.map_cons, valV_neg e, valV_keys c r]
      have : ¬ c = d := fun z => e (by rw [z])
      simp [this]
theorem dist_snoc (l : List C) (c : C) (m : List C) : dist (l ++ [c]) m = if (dist l m).contains c = true then dist l m else dist l m ++ [c] := by
  unfold dist
  rw [List.foldl_append]
  rfl
theorem ok_atoms (T : Txt K mg A) : DefOk P w K mg base CX0 2 A.atoms ["concepts"] (spAtoms A K) := by
  refine T.d_atoms.ok sc_atoms (fun vs H Q E h => ?_) (fun cdv B outer s H vs Q E hr h => ⟨_, pss_cons (ps_set (i := 1) sc_atoms.nd rfl (.inl rfl) (pe_lst pa_nil))
    (pss_cons (ps_set (i := 2) sc_atoms.nd rfl (.inl rfl) pe_dnewT)
    (pss_cons (ps_for PassesOwn.never rfl (pi_list (dcall (ok_all T) hr T.g_all pass0 (pa_cons (pv 0) pa_nil))) (pg_name (i := 3) sc_atoms.nd rfl (.inl rfl))
      (pss_one (ps_if (PW.pt (pw_and (pt_val (dmeth0 (ok_is T) hr T.cl_c T.m_cIs pass0 (pv 3))) (pw_and1 (pt_cmp (pc_dnotin (hu_of hr) (pe_fld (pv 3) rfl) (pv 2)) (by rfl)))))
        (pss_cons (ps_dput (hu_of hr) (pv 2) (pe_fld (pv 3) rfl) pe_bl rfl) (pss_one (ps_expr (appE (pv 1) (pv 3))))) pss_nil)))
    (pss_one (ps_ret (pv 1))))), ?_⟩)
  · obtain ⟨a, cs, us, G, rfl, _⟩ := h
    rfl
  · obtain ⟨a, cs, us, G, rfl, hS, sG, hC, hz, q⟩ := h
    refine ⟨(by show 0 ≤ sizeLine; decide), fun fl hfl => ?_⟩
    have s0 : Same H (upd H fl (.lst [])) := same_new hfl _
    intro dl hdl
    have hdf : dl ≠ fl := fun z => by rw [z, upd_same] at hdl; cases hdl
    have s1 : Same H (upd (upd H fl (.lst [])) dl (.dT [])) := s0.trans (same_new hdl _)
    have hdl0 : H dl = none := s0.free hdl
    refine ⟨_, rfl, a, cs, us, G, rfl, s1.seq hS, sG.trans s1, hC, hz, fun l H1 ws s2 hl0 hl hW => ?_⟩
    have hfl1 : H1 fl = some (.lst []) := s2 _ _ (by rw [upd_ne (Ne.symm hdf)]; exact upd_same)
    have hdl1 : H1 dl = some (.dT []) := s2 _ _ upd_same
    have hlf : l ≠ fl := fun z => by rw [z, upd_ne (Ne.symm hdf), upd_same] at hl0; cases hl0
    have hld : l ≠ dl := fun z => by rw [z, upd_same] at hl0; cases hl0
    refine ⟨l, rfl, ⟨_, SqL.of hl⟩, ?_⟩
    have hlen : (allIn cs).length ≤ 1000 := Nat.le_trans (allIn_len cs) hz
    have small : ∀ i, (dist (((allIn cs).take i).filter isAt) []).length ≤ 1000 := fun i => by
      have h1 := dist_len (((allIn cs).take i).filter isAt) []
      have h2 := List.length_filter_le isAt ((allIn cs).take i)
      have h3 : ((allIn cs).take i).length ≤ (allIn cs).length := by rw [List.length_take]; exact Nat.min_le_right _ _
      simp only [List.length_nil] at h1
      omega
    refine for_list (K := K) (a := l) (xs := ws) (fun i σ H' => ∃ (fv : List V) (x : Option V), σ = [some (.ref a), some (.ref fl), some (.ref dl), x] ∧ Same H H' ∧ H' l = some (.lst ws) ∧
      H' fl = some (.lst fv) ∧ H' dl = some (.dT ((dist (((allIn cs).take i).filter isAt) []).map fun d => (keyC d, V.bl true))) ∧ CsAt A.c G (dist (((allIn cs).take i).filter isAt) []) fv) ?_ ?_ ?_ ?_
    · exact ⟨[], none, rfl, s1.trans s2, hl, hfl1, hdl1, .nil⟩
    · rintro i σ H' _ ⟨fv, x, rfl, k1, hl', _⟩
      exact SqL.of hl'
    · rintro i x σ H' hx ⟨fv, x0, rfl, k1, hl', hf, hd, hF⟩
      obtain ⟨c, hc, hcx⟩ := paired_at hW hx
      obtain ⟨ca, dx, pl, pt, ps, rfl, h1, h2, h3, h4⟩ := hcx.obj
      have k2 : Same G H' := sG.trans k1
      have eT : ((allIn cs).take (i + 1)).filter isAt = ((allIn cs).take i).filter isAt ++ (if isAt c = true then [c] else []) := by
        rw [take_snoc hc, List.filter_append]
        congr 1
        cases e : isAt c <;> simp [e]
      refine ⟨_, rfl, ca, dx, _, rfl, k2 _ _ h1, cF_is, .ref ca, c, rfl, hcx.kp (kp_of k2), fun H2 s3 => ⟨_, rfl, ?_⟩⟩
      have hl2 := s3 _ _ hl'
      have hf2 := s3 _ _ hf
      have hd2 := s3 _ _ hd
      have k3 := k1.trans s3
      have k4 : Same G H2 := sG.trans k3
      cases ha : isAt c with
      | false =>
        refine iteF (iteF ⟨fv, _, rfl, k3, hl2, hf2, ?_, ?_⟩)
        · rw [eT, ha]
          simpa using hd2
        · rw [eT, ha]
          simpa using hF
      | true =>
        rw [ha] at eT
        rw [if_pos rfl] at eT
        refine iteT ?_
        have hkey : H2 pt = some (.tup ((keyC c).map kV)) := by rw [keyC_kV]; exact k4 _ _ h3
        refine ⟨_, rfl, ca, A.c, dx, _, _, rfl, k4 _ _ h1, T.cl_c, T.n_c_numbers, cF_numbers, _, rfl, dl, _, rfl, DGet.t hd2 hkey, _, rfl, ?_⟩
        rw [valV_keys]
        by_cases hin : (dist (((allIn cs).take i).filter isAt) []).contains c = true
        · rw [hin]
          refine iteF ⟨fv, _, rfl, k3, hl2, hf2, ?_, ?_⟩
          · rw [eT, dist_snoc, if_pos hin]; exact hd2
          · rw [eT, dist_snoc, if_pos hin]; exact hF
        · have hin' : (dist (((allIn cs).take i).filter isAt) []).contains c = false := by simpa using hin
          rw [hin']
          refine iteT ?_
          have hzd : ((dist (((allIn cs).take i).filter isAt) []).map fun d => (keyC d, V.bl true)).length < sizeLine := by
            rw [List.length_map]
            exact small1000 (small i)
          refine ⟨_, rfl, _, rfl, ca, A.c, dx, _, _, rfl, k4 _ _ h1, T.cl_c, T.n_c_numbers, cF_numbers, dl, _, rfl, DPut.t hd2 hkey hzd, ?_⟩
          have hnone : valV ((dist (((allIn cs).take i).filter isAt) []).map fun d => (keyC d, V.bl true)) (keyC c) = none := by
            have := valV_keys c (dist (((allIn cs).take i).filter isAt) [])
            rw [hin'] at this
            cases e : valV ((dist (((allIn cs).take i).filter isAt) []).map fun d => (keyC d, V.bl true)) (keyC c) with
            | none => rfl
            | some z => rw [e] at this; cases this
          rw [putK_new _ hnone]
          have hf3 : upd H2 dl (.dT ((dist (((allIn cs).take i).filter isAt) []).map (fun d => (keyC d, V.bl true)) ++ [(keyC c, V.bl true)])) fl = some (.lst fv) := by rw [upd_ne (Ne.symm hdf)]; exact hf2
          have hzf : fv.length < sizeLine := by
            have := hF.length
            exact small1000 (by have := small i; omega)
          refine ⟨_, rfl, .inl ⟨rfl, _, SqL.of hf3⟩, _, rfl, fl, fv, _, rfl, rfl, hf3, hzf, ?_⟩
          refine ⟨fv ++ [.ref ca], _, rfl, ?_, ?_, upd_same, ?_, ?_⟩
          · exact same_upd (same_upd k3 hdl0 _) hfl _
          · rw [upd_ne hlf, upd_ne hld]; exact hl2
          · rw [upd_ne hdf, upd_same, eT, dist_snoc, if_neg hin, List.map_append]
            rfl
          · rw [eT, dist_snoc, if_neg hin]
            exact Paired.snoc hF hcx
    · rintro σ H' ⟨fv, x, rfl, k1, hl', hf, hd, hF⟩
      refine ⟨_, rfl, q fl H' fv k1 hfl hf ?_⟩
      have e : (allIn cs).take ws.length = allIn cs := by rw [← hW.length, List.take_length]
      rw [e] at hF
      exact hF
theorem foldl_take {α β : Type} {f : β → α → β} {b : β} {l : List α} {i : Nat} {x : α} (h : l[i]? = some x) : (l.take (i + 1)).foldl f b = f ((l.take i).foldl f b) x := by
  rw [take_snoc h, List.foldl_append]
  rfl
theorem sc_bits : FnScope ["concepts", "kinds", "found", "concept"] ["concepts", "kinds"] (defScope sBits) := ⟨rfl, rfl, rfl, by decide +kernel, rfl, by decide +kernel, by decide +kernel⟩
theorem ok_bits (T : Txt K mg A) : DefOk P w K mg base CX0 2 A.bits ["concepts", "kinds"] (spBits A K) := by
  refine T.d_bits.ok sc_bits (fun vs H Q E h => ?_) (fun cdv B outer s H vs Q E hr h => ⟨_, pss_cons (ps_set (i := 2) sc_bits.nd rfl (.inl rfl) pe_int)
    (pss_cons (ps_for PassesOwn.never rfl (pi_list (dcall (ok_all T) hr T.g_all pass0 (pa_cons (pv 0) pa_nil))) (pg_name (i := 3) sc_bits.nd rfl (.inl rfl))
      (pss_one (ps_if (pt_cmpR op_in_seq (pe_fld (pv 3) rfl) (pv 1) (by rfl))
        (pss_one (ps_set (i := 2) sc_bits.nd rfl (.inl rfl) (pe_op op_or (pv 2) (pe_op op_shl pe_int (pe_fld (pv 3) rfl))))) pss_nil)))
    (pss_one (ps_ret (pv 2)))), ?_⟩)
  · obtain ⟨a, b, cs, us, ks, rfl, _⟩ := h
    rfl
  · obtain ⟨a, b, cs, us, ks, rfl, hS, hC, hz, hT, hok, q⟩ := h
    refine ⟨_, rfl, a, cs, us, H, rfl, hS, Same.refl H, hC, hz, fun l H1 ws s2 hl0 hl hW => ?_⟩
    refine ⟨l, rfl, ⟨_, SqL.of hl⟩, ?_⟩
    refine for_list (K := K) (a := l) (xs := ws) (fun i σ H' => ∃ (x : Option V), H' = H1 ∧ σ = [some (.ref a), some (.ref b), some (vI (((allIn cs).take i).foldl (fun m c => if kindOf c ∈ ks then m ||| 2 ^ numOf c else m) 0)), x]) ?_ ?_ ?_ ?_
    · exact ⟨none, rfl, rfl⟩
    · rintro i σ H' _ ⟨x, rfl, _⟩
      exact SqL.of hl
    · rintro i x σ H' hx ⟨x0, rfl, rfl⟩
      obtain ⟨c, hc, hcx⟩ := paired_at hW hx
      obtain ⟨ca, dx, pl, pt, ps, rfl, h1, h2, h3, h4⟩ := hcx.obj
      have hsm : numOf c < 4 := by
        obtain ⟨d, hd, hm⟩ := mem_allIn.mp (List.mem_of_getElem? hc)
        exact okC_small (okC_subs d (hok d hd) c hm)
      refine ⟨_, rfl, ca, A.c, dx, _, _, rfl, s2 _ _ h1, T.cl_c, T.n_c_kind, cF_kind, _, rfl, b, _, rfl, .inr (same_seqT s2 hT), rfl, flat_ints ks, _, rfl, ?_⟩
      show if inV (vI (kindOf c)) (ks.map vI) = true then _ else _
      rw [inVn]
      by_cases hk : kindOf c ∈ ks
      · refine dec_true hk ⟨_, rfl, _, rfl, ca, A.c, dx, _, _, rfl, s2 _ _ h1, T.cl_c, T.n_c_number, cF_number, _, _, rfl, rfl, ⟨by omega, by omega, by decide⟩, _, _, rfl, rfl, some (.ref ca), rfl, ?_⟩
        rw [foldl_take hc, if_pos hk, ← or_shl]
        rfl
      · refine dec_false hk ⟨some (.ref ca), rfl, ?_⟩
        rw [foldl_take hc, if_neg hk]
        rfl
    · rintro σ H' ⟨x, rfl, rfl⟩
      refine ⟨_, rfl, ?_⟩
      have e : (allIn cs).take ws.length = allIn cs := by rw [← hW.length, List.take_length]
      rw [e]
      exact q _ s2
theorem sc_sig : FnScope ["concepts"] ["concepts"] (defScope sSig) := ⟨rfl, rfl, rfl, by decide +kernel, rfl, by decide +kernel, by decide +kernel⟩
theorem ok_sig (T : Txt K mg A) : DefOk P w K mg base CX0 3 A.sig ["concepts"] (spSig A K) := by
  refine T.d_sig.ok sc_sig (fun vs H Q E h => ?_) (fun cdv B outer s H vs Q E hr h => ⟨_, pss_one (ps_ret (pe_tup (pa_cons (dcall (ok_bits T) hr T.g_bits pass0 (pa_cons (pv 0) (pa_cons (pe_tup (pa_cons (gi T.vNAME) pa_nil)) pa_nil)))
    (pa_cons (dcall (ok_bits T) hr T.g_bits pass0 (pa_cons (pv 0) (pa_cons (pe_tup (pa_cons (gi T.vSOME) (pa_cons (gi T.vEVERY) pa_nil))) pa_nil))) pa_nil)))), ?_⟩)
  · obtain ⟨a, cs, us, rfl, _⟩ := h
    rfl
  · obtain ⟨a, cs, us, rfl, hS, hC, hz, hok, q⟩ := h
    refine ⟨_, rfl, (by show 1 ≤ sizeLine; decide), fun p hp => ?_⟩
    have s1 : Same H (upd H p (.tup [.int 2])) := same_new hp _
    refine ⟨a, p, cs, us, [2], rfl, s1.seq hS, hC.kp (kp_of s1), hz, SqT.of upd_same, hok, fun H2 s2 => ?_⟩
    have s3 := s1.trans s2
    refine ⟨_, rfl, (by show 2 ≤ sizeLine; decide), fun p2 hp2 => ?_⟩
    have s4 := s3.trans (same_new hp2 (.tup [.int 6, .int 7]))
    refine ⟨a, p2, cs, us, [6, 7], rfl, s4.seq hS, hC.kp (kp_of s4), hz, SqT.of upd_same, hok, fun H3 s5 => ?_⟩
    have s6 := s4.trans s5
    refine ⟨(by show 2 ≤ sizeLine; decide), fun t ht => ?_⟩
    exact q t _ (same_upd s6 (s6.free ht) _) (s6.free ht) upd_same
end
end Ax

namespace Ax
open PySem PySem.Spec PyProof.Rows L2
open Oc (C Axiom holds)
/-! ### numbers as Python has them -/
theorem and_nat (a b : Nat) : Builtin.bitAnd (a : Int) (b : Int) = ((a &&& b : Nat) : Int) := by
  unfold Builtin.bitAnd
  rw [decide_eq_true (Int.natCast_nonneg a), decide_eq_true (Int.natCast_nonneg b)]
  simp only [Int.toNat_natCast]
theorem and_not_nat (a b : Nat) : Builtin.bitAnd (a : Int) (Builtin.bitNot (b : Int)) = ((butNot a b : Nat) : Int) := by
  unfold Builtin.bitAnd Builtin.bitNot
  have h1 : ¬ (0 : Int) ≤ -(b : Int) - 1 := by omega
  have h2 : (-(-(b : Int) - 1) - 1).toNat = b := by omega
  rw [decide_eq_true (Int.natCast_nonneg a), decide_eq_false h1]
  simp only [Int.toNat_natCast, h2]
  have h3 := butNot_add a a b (Nat.le_refl _)
  omega
theorem shr_nat (t k : Nat) : (t : Int) / 2 ^ ((k : Int)).toNat = ((t / 2 ^ k : Nat) : Int) := by
  rw [Int.toNat_natCast, Int.natCast_ediv, Int.natCast_pow]; rfl
theorem bit_val (t k : Nat) : V.int (Builtin.bitAnd ((t : Int) / 2 ^ ((k : Int)).toNat) 1) = vI (t.testBit k).toNat := by
  rw [shr_nat, show (1 : Int) = ((1 : Nat) : Int) from rfl, and_nat, Nat.and_one_is_mod, Nat.toNat_testBit]
  rfl
theorem bit_is (t k : Nat) : decide (V.int (Builtin.bitAnd ((t : Int) / 2 ^ ((k : Int)).toNat) 1) = V.int 1) = t.testBit k := by
  rw [bit_val]
  cases t.testBit k <;> rfl
theorem shl_one (n : Nat) : V.int ((1 : Int) * 2 ^ ((n : Int)).toNat) = vI (2 ^ n) := by rw [shl_nat]; rfl
/-! ### frames in the heap -/
def spotsL (at_ : List C) : List (List Key × V) := at_.zipIdx.map fun p => (keyC p.1, vI p.2)
theorem spots_from (a : C) : ∀ (at_ : List C) (n : Nat), valV ((at_.zipIdx n).map fun p => (keyC p.1, vI p.2)) (keyC a) = (at_.idxOf? a).map fun k => vI (n + k)
  | [], n => rfl
  | b :: r, n => by
    rw [List.zipIdx_cons, List.map_cons]
    by_cases e : b = a
    · subst e
      rw [valV_pos rfl]
      simp [List.idxOf?_cons]
    · rw [valV_neg (fun z => e (keyC_inj z)), spots_from a r (n + 1)]
      have : (b == a) = false := by simpa using e
      rw [List.idxOf?_cons, this]
      simp only [Bool.false_eq_true, if_false]
      cases r.idxOf? a with
      | none => rfl
      | some k =>
        simp only [Option.map_some]
        have : n + 1 + k = n + (k + 1) := by omega
        rw [this]
theorem spots_at {at_ : List C} {a : C} {k : Nat} (h : at_.idxOf? a = some k) : valV (spotsL at_) (keyC a) = some (vI k) := by
  unfold spotsL
  rw [spots_from a at_ 0, h]
  simp
/-- a frame whose atoms and spots stand -/
structure FrP (A : Ad) (H : Hp) (f : Addr) (at_ : List C) : Prop where
  ex : ∃ dx fs la ls us, H f = some (.ins A.f dx fs) ∧ fs.lookup ("atoms" : Str) = some (.ref la) ∧ fs.lookup ("spots" : Str) = some (.ref ls) ∧ fs.lookup ("is_so" : Str) = none ∧ fs.lookup ("inner_of" : Str) = none ∧
    H la = some (.lst us) ∧ CsAt A.c H at_ us ∧ H ls = some (.dT (spotsL at_))
theorem FrP.kp {A : Ad} {H H' : Hp} {f : Addr} {at_ : List C} (s : Kp H H') (h : FrP A H f at_) : FrP A H' f at_ := by
  obtain ⟨dx, fs, la, ls, us, h1, h2, h3, h4, h5, h6, h7, h8⟩ := h.ex
  exact ⟨dx, fs, la, ls, us, s _ _ h1 (fun _ z => by cases z), h2, h3, h4, h5, s _ _ h6 (fun _ z => by cases z), h7.kp s, s _ _ h8 (fun _ z => by cases z)⟩
/-- atoms as a frame has them -/
structure GoodAt (at_ : List C) : Prop where
  nd : at_.Nodup
  cl : Closed at_
  is : ∀ a ∈ at_, isAt a = true
  few : at_.length ≤ 1000
  ok : ∀ a ∈ at_, okC a = true
  short : ∀ a ∈ at_, (enc a).length ≤ 40
def spSo (A : Ad) (n : Nat) : Sp := fun vs H Q _ => ∃ (f : Addr) (v : V) (t : Nat) (at_ : List C) (c : C), vs = [.ref f, v, vI t] ∧ FrP A H f at_ ∧ CAt A.c H c v ∧ Cov at_ c ∧ (enc c).length ≤ n ∧ ∀ H', Same H H' → Q (.bl (holds at_ t c)) H'
def spInn (A : Ad) : Sp := fun vs H Q _ => ∃ (f : Addr) (t : Nat) (at_ : List C), vs = [.ref f, vI t] ∧ FrP A H f at_ ∧ GoodAt at_ ∧ ∀ H', Same H H' → Q (vI (inner at_ t)) H'
def spAw (A : Ad) : Sp := fun vs H Q _ => ∃ (f : Addr) (k r : Nat) (at_ : List C), vs = [.ref f, vI k, vI r] ∧ FrP A H f at_ ∧ GoodAt at_ ∧ ∀ H', Same H H' → Q (vI (mask at_ (kindRole k r))) H'
section
variable {P : Program} {w : World} {K : PySem.W.Frag} {mg : Str → Option Value} {base : Heap} {A : Ad}
theorem sc_so : FnScope ["self", "concept", "pattern"] ["self", "concept", "pattern"] (defScope sSo) := ⟨rfl, rfl, rfl, by decide +kernel, rfl, by decide +kernel, by decide +kernel⟩
theorem so_step (T : Txt K mg A) (n : Nat) (D : DefOk P w K mg base CX0 (n + 1) A.so ["self", "concept", "pattern"] (spSo A n)) : DefOk P w K mg base CX0 (n + 2) A.so ["self", "concept", "pattern"] (spSo A (n + 1)) := by
  refine T.d_so.ok sc_so (fun vs H Q E h => ?_) (fun cdv B outer s H vs Q E hr h => ?_)
  · obtain ⟨f, v, t, at_, c, rfl, _⟩ := h
    rfl
  have hr1 : Room 1 _ := hr.mono (by omega)
  refine ⟨_, pss_cons (ps_if (pt_val (dmeth0 (ok_is T) hr1 T.cl_c T.m_cIs pass0 (pv 1))) (pss_one (ps_ret (pe_cmpR op_eq (pe_op op_and (pe_op op_shr (pv 2) (pe_dget (hu_of hr) (pe_fld (pv 0) rfl) (pe_fld (pv 1) rfl) (fun _ _ => rfl))) pe_int) pe_int (nomark _)))) pss_nil)
    (pss_cons (ps_if (pt_cmpR op_eq (pe_fld (pv 1) rfl) (gi T.vALL) (nomark _)) (pss_one (ps_ret pe_bl)) pss_nil)
    (pss_cons (ps_if (pt_cmpR op_eq (pe_fld (pv 1) rfl) (gi T.vNONE) (nomark _)) (pss_one (ps_ret pe_bl)) pss_nil)
    (pss_cons (ps_if (pt_cmpR op_eq (pe_fld (pv 1) rfl) (gi T.vNOT) (nomark _)) (pss_one (ps_ret (pe_not (dmeth D hr T.cl_f T.m_so pass0 (pv 0) (pa_cons (pe_ix ix_list (pe_fld (pv 1) rfl) pe_int (fun _ _ => rfl)) (pa_cons (pv 2) pa_nil)))))) pss_nil)
    (pss_cons (ps_if (pt_cmpR op_eq (pe_fld (pv 1) rfl) (gi T.vBOTH) (nomark _)) (pss_one (ps_ret (pe_and (dmeth D hr T.cl_f T.m_so pass0 (pv 0) (pa_cons (pe_ix ix_list (pe_fld (pv 1) rfl) pe_int (fun _ _ => rfl)) (pa_cons (pv 2) pa_nil)))
      (pe_one (dmeth D hr T.cl_f T.m_so pass0 (pv 0) (pa_cons (pe_ix ix_list (pe_fld (pv 1) rfl) pe_int (fun _ _ => rfl)) (pa_cons (pv 2) pa_nil))))))) pss_nil)
    (pss_one (ps_ret (pe_or (dmeth D hr T.cl_f T.m_so pass0 (pv 0) (pa_cons (pe_ix ix_list (pe_fld (pv 1) rfl) pe_int (fun _ _ => rfl)) (pa_cons (pv 2) pa_nil)))
      (pe_one (dmeth D hr T.cl_f T.m_so pass0 (pv 0) (pa_cons (pe_ix ix_list (pe_fld (pv 1) rfl) pe_int (fun _ _ => rfl)) (pa_cons (pv 2) pa_nil))))))))))), ?_⟩
  obtain ⟨f, v, t, at_, c, rfl, hF, hC, hcov, hn, q⟩ := h
  obtain ⟨ca, dx, pl, pt, ps, rfl, h1, h2, h3, h4⟩ := hC.obj
  refine ⟨_, rfl, ca, dx, _, rfl, h1, cF_is, .ref ca, c, rfl, hC, fun H1 s1 => ⟨_, rfl, ?_⟩⟩
  have e1 := s1 _ _ h1
  have e2 := s1 _ _ h2
  have e3 := s1 _ _ h3
  have hF1 := hF.kp (kp_of s1)
  have hC1 := h4.kp (kp_of s1)
  obtain ⟨fx, fs, la, ls, us, f1, f2, f3, f4, f5, f6, f7, f8⟩ := hF1.ex
  have i0 : ∀ {xs : List V} {p : V}, atI (p :: xs) 0 = some p := fun {xs p} => atI_nat (xs := p :: xs) (j := 0) rfl
  have i1 : ∀ {xs : List V} {p r : V}, atI (p :: r :: xs) 1 = some r := fun {xs p r} => atI_nat (xs := p :: r :: xs) (j := 1) rfl
  cases c with
  | name b =>
    refine iteT ?_
    obtain ⟨k, hk, _⟩ := idx_of_mem (hcov (.name b) (List.mem_singleton.mpr rfl))
    have hkey : H1 pt = some (.tup ((keyC (.name b)).map kV)) := by rw [keyC_kV]; exact e3
    refine ⟨_, rfl, _, rfl, f, A.f, fx, fs, _, rfl, f1, T.cl_f, T.n_f_spots, f3, _, rfl, ca, A.c, dx, _, _, rfl, e1, T.cl_c, T.n_c_numbers, cF_numbers, ls, vI k, rfl, by rw [← spots_at hk]; exact DGet.t f8 hkey, ?_⟩
    refine ⟨_, _, rfl, rfl, by omega, _, _, rfl, rfl, rfl, ?_⟩
    have z := q H1 s1
    rw [holds_atom hk rfl, bit_eq, ← bit_is] at z
    exact z
  | some r d =>
    refine iteT ?_
    obtain ⟨k, hk, _⟩ := idx_of_mem (hcov (.some r d) List.mem_cons_self)
    have hkey : H1 pt = some (.tup ((keyC (.some r d)).map kV)) := by rw [keyC_kV]; exact e3
    refine ⟨_, rfl, _, rfl, f, A.f, fx, fs, _, rfl, f1, T.cl_f, T.n_f_spots, f3, _, rfl, ca, A.c, dx, _, _, rfl, e1, T.cl_c, T.n_c_numbers, cF_numbers, ls, vI k, rfl, by rw [← spots_at hk]; exact DGet.t f8 hkey, ?_⟩
    refine ⟨_, _, rfl, rfl, by omega, _, _, rfl, rfl, rfl, ?_⟩
    have z := q H1 s1
    rw [holds_atom hk rfl, bit_eq, ← bit_is] at z
    exact z
  | all r d =>
    refine iteT ?_
    obtain ⟨k, hk, _⟩ := idx_of_mem (hcov (.all r d) List.mem_cons_self)
    have hkey : H1 pt = some (.tup ((keyC (.all r d)).map kV)) := by rw [keyC_kV]; exact e3
    refine ⟨_, rfl, _, rfl, f, A.f, fx, fs, _, rfl, f1, T.cl_f, T.n_f_spots, f3, _, rfl, ca, A.c, dx, _, _, rfl, e1, T.cl_c, T.n_c_numbers, cF_numbers, ls, vI k, rfl, by rw [← spots_at hk]; exact DGet.t f8 hkey, ?_⟩
    refine ⟨_, _, rfl, rfl, by omega, _, _, rfl, rfl, rfl, ?_⟩
    have z := q H1 s1
    rw [holds_atom hk rfl, bit_eq, ← bit_is] at z
    exact z
  | top =>
    refine iteF ?_
    refine ⟨_, rfl, ca, A.c, dx, _, _, rfl, e1, T.cl_c, T.n_c_kind, cF_kind, rfl, _, rfl, iteT ?_⟩
    exact q H1 s1
  | bot =>
    refine iteF ?_
    refine ⟨_, rfl, ca, A.c, dx, _, _, rfl, e1, T.cl_c, T.n_c_kind, cF_kind, rfl, _, rfl, iteF ?_⟩
    refine ⟨_, rfl, ca, A.c, dx, _, _, rfl, e1, T.cl_c, T.n_c_kind, cF_kind, rfl, _, rfl, iteT ?_⟩
    exact q H1 s1
  | not d =>
    refine iteF ?_
    refine ⟨_, rfl, ca, A.c, dx, _, _, rfl, e1, T.cl_c, T.n_c_kind, cF_kind, rfl, _, rfl, iteF ?_⟩
    refine ⟨_, rfl, ca, A.c, dx, _, _, rfl, e1, T.cl_c, T.n_c_kind, cF_kind, rfl, _, rfl, iteF ?_⟩
    refine ⟨_, rfl, ca, A.c, dx, _, _, rfl, e1, T.cl_c, T.n_c_kind, cF_kind, rfl, _, rfl, iteT ?_⟩
    match ps, hC1 with
    | [p], .cons hp .nil =>
      refine ⟨_, rfl, f, fx, fs, rfl, f1, f4, _, rfl, ca, A.c, dx, _, _, rfl, e1, T.cl_c, T.n_c_parts, cF_parts, pl, _, _, _, rfl, rfl, SqL.of e2, i0, _, rfl, ?_⟩
      refine ⟨f, p, t, at_, d, rfl, hF1, hp, hcov, ?_, fun H3 s3 => ⟨_, rfl, q H3 (s1.trans s3)⟩⟩
      have : (enc (.not d)).length = (enc d).length + 1 := by simp [enc]
      omega
  | and d d' =>
    refine iteF ?_
    refine ⟨_, rfl, ca, A.c, dx, _, _, rfl, e1, T.cl_c, T.n_c_kind, cF_kind, rfl, _, rfl, iteF ?_⟩
    refine ⟨_, rfl, ca, A.c, dx, _, _, rfl, e1, T.cl_c, T.n_c_kind, cF_kind, rfl, _, rfl, iteF ?_⟩
    refine ⟨_, rfl, ca, A.c, dx, _, _, rfl, e1, T.cl_c, T.n_c_kind, cF_kind, rfl, _, rfl, iteF ?_⟩
    refine ⟨_, rfl, ca, A.c, dx, _, _, rfl, e1, T.cl_c, T.n_c_kind, cF_kind, rfl, _, rfl, iteT ?_⟩
    have hlen : (enc (.and d d')).length = (enc d).length + (enc d').length + 1 := by simp [enc]
    have k1 := enc_pos d
    have k2 := enc_pos d'
    match ps, hC1 with
    | [p, p'], .cons hp (.cons hp' .nil) =>
      refine ⟨_, rfl, f, fx, fs, rfl, f1, f4, _, rfl, ca, A.c, dx, _, _, rfl, e1, T.cl_c, T.n_c_parts, cF_parts, pl, _, _, _, rfl, rfl, SqL.of e2, i0, _, rfl, ?_⟩
      refine ⟨f, p, t, at_, d, rfl, hF1, hp, fun b hb => hcov b (List.mem_append_left _ hb), by omega, fun H3 s3 => ⟨_, rfl, ?_⟩⟩
      have hh : holds at_ t (.and d d') = (holds at_ t d && holds at_ t d') := rfl
      cases hv : holds at_ t d with
      | false =>
        refine iteF ?_
        have z := q H3 (s1.trans s3)
        rw [hh, hv] at z
        exact z
      | true =>
        refine iteT ⟨_, rfl, f, fx, fs, rfl, s3 _ _ f1, f4, _, rfl, ca, A.c, dx, _, _, rfl, s3 _ _ e1, T.cl_c, T.n_c_parts, cF_parts, pl, _, _, _, rfl, rfl, SqL.of (s3 _ _ e2), i1, _, rfl, ?_⟩
        refine ⟨f, p', t, at_, d', rfl, hF1.kp (kp_of s3), CAt.kp (kp_of s3) d' p' hp', fun b hb => hcov b (List.mem_append_right _ hb), by omega, fun H4 s4' => ?_⟩
        have s4 := s3.trans s4'
        have z := q H4 (s1.trans s4)
        rw [hh, hv] at z
        exact z
  | or d d' =>
    refine iteF ?_
    refine ⟨_, rfl, ca, A.c, dx, _, _, rfl, e1, T.cl_c, T.n_c_kind, cF_kind, rfl, _, rfl, iteF ?_⟩
    refine ⟨_, rfl, ca, A.c, dx, _, _, rfl, e1, T.cl_c, T.n_c_kind, cF_kind, rfl, _, rfl, iteF ?_⟩
    refine ⟨_, rfl, ca, A.c, dx, _, _, rfl, e1, T.cl_c, T.n_c_kind, cF_kind, rfl, _, rfl, iteF ?_⟩
    refine ⟨_, rfl, ca, A.c, dx, _, _, rfl, e1, T.cl_c, T.n_c_kind, cF_kind, rfl, _, rfl, iteF ?_⟩
    have hlen : (enc (.or d d')).length = (enc d).length + (enc d').length + 1 := by simp [enc]
    have k1 := enc_pos d
    have k2 := enc_pos d'
    match ps, hC1 with
    | [p, p'], .cons hp (.cons hp' .nil) =>
      refine ⟨_, rfl, f, fx, fs, rfl, f1, f4, _, rfl, ca, A.c, dx, _, _, rfl, e1, T.cl_c, T.n_c_parts, cF_parts, pl, _, _, _, rfl, rfl, SqL.of e2, i0, _, rfl, ?_⟩
      refine ⟨f, p, t, at_, d, rfl, hF1, hp, fun b hb => hcov b (List.mem_append_left _ hb), by omega, fun H3 s3 => ⟨_, rfl, ?_⟩⟩
      have hh : holds at_ t (.or d d') = (holds at_ t d || holds at_ t d') := rfl
      cases hv : holds at_ t d with
      | true =>
        refine iteT ?_
        have z := q H3 (s1.trans s3)
        rw [hh, hv] at z
        exact z
      | false =>
        refine iteF ⟨_, rfl, f, fx, fs, rfl, s3 _ _ f1, f4, _, rfl, ca, A.c, dx, _, _, rfl, s3 _ _ e1, T.cl_c, T.n_c_parts, cF_parts, pl, _, _, _, rfl, rfl, SqL.of (s3 _ _ e2), i1, _, rfl, ?_⟩
        refine ⟨f, p', t, at_, d', rfl, hF1.kp (kp_of s3), CAt.kp (kp_of s3) d' p' hp', fun b hb => hcov b (List.mem_append_right _ hb), by omega, fun H4 s4' => ?_⟩
        have s4 := s3.trans s4'
        have z := q H4 (s1.trans s4)
        rw [hh, hv] at z
        exact z
theorem so_ok (T : Txt K mg A) : ∀ n : Nat, DefOk P w K mg base CX0 (n + 1) A.so ["self", "concept", "pattern"] (spSo A n)
  | 0 => by
    have no : ∀ vs H Q E, ¬ spSo A 0 vs H Q E := fun vs H Q E h => by
      obtain ⟨f, v, t, at_, c, _, _, _, _, h1, _⟩ := h
      have := enc_pos c
      omega
    obtain ⟨fd, F, b⟩ := T.d_so.ex
    exact ⟨⟨fd, ⟨fun vs H Q E h => absurd h (no vs H Q E), fun A outer s H args us vs Q E _ _ _ _ h => absurd h (no vs H Q E)⟩, b⟩, T.d_so.kp⟩
  | n + 1 => so_step T n (so_ok T n)
/-- is_so, of concepts as they come -/
theorem ok_so (T : Txt K mg A) : DefOk P w K mg base CX0 41 A.so ["self", "concept", "pattern"] (spSo A 40) := so_ok T 40
end
end Ax

namespace Ax
open PySem PySem.Spec PyProof.Rows L2
open Oc (C Axiom holds)
theorem take_paired {α β : Type} {F : α → β → Prop} {l : List α} {m : List β} (h : Paired F l m) : l.take m.length = l := by rw [← h.length, List.take_length]
theorem neI (a b : Nat) : (!decide (V.int (a : Int) = V.int (b : Int))) = decide (a ≠ b) := by
  rw [eqI]
  by_cases h : a = b <;> simp [h]
theorem mask_or {at_ : List C} {g : C → Bool} {i : Nat} {a : C} (h : at_[i]? = some a) (hg : g a = true) : V.int (Builtin.bitOr ((mask (at_.take i) g : Nat) : Int) ((1 : Int) * 2 ^ ((i : Int)).toNat)) = vI (mask (at_.take (i + 1)) g) := by
  rw [or_shl, mask_take h, if_pos hg]
theorem mask_no {at_ : List C} {g : C → Bool} {i : Nat} {a : C} (h : at_[i]? = some a) (hg : g a = false) : mask (at_.take (i + 1)) g = mask (at_.take i) g := by
  rw [mask_take h, if_neg (by rw [hg]; simp)]
theorem GoodAt.lt {at_ : List C} (g : GoodAt at_) {i : Nat} {a : C} (h : at_[i]? = some a) : i ≤ 1000000 := by
  have h1 := (List.getElem?_eq_some_iff.mp h).1
  have h2 := g.few
  omega
section
variable {P : Program} {w : World} {K : PySem.W.Frag} {mg : Str → Option Value} {base : Heap} {A : Ad}
theorem sc_inn : FnScope ["self", "pattern", "found", "spot", "atom"] ["self", "pattern"] (defScope sInn) := ⟨rfl, rfl, rfl, by decide +kernel, rfl, by decide +kernel, by decide +kernel⟩
theorem ok_inn (T : Txt K mg A) : DefOk P w K mg base CX0 42 A.inn ["self", "pattern"] (spInn A) := by
  refine T.d_inn.ok sc_inn (fun vs H Q E h => ?_) (fun cdv B outer s H vs Q E hr h => ⟨_, pss_cons (ps_set (i := 2) sc_inn.nd rfl (.inl rfl) pe_int)
    (pss_cons (ps_for PassesOwn.never rfl (pi_enum rfl T.z_enumerate (pa_cons (pe_fld (pv 0) rfl) pa_nil)) (pg_tup rfl (pgs_cons (pg_name (i := 3) sc_inn.nd rfl (.inl rfl)) (pgs_cons (pg_name (i := 4) sc_inn.nd rfl (.inl rfl)) pgs_nil)))
      (pss_one (ps_if (PW.pt (pw_and (pt_cmpR op_ne (pe_fld (pv 4) rfl) (gi T.vNAME) (nomark _)) (pw_and1 (pt_val (dmeth (ok_so T) hr T.cl_f T.m_so pass0 (pv 0) (pa_cons (pe_ix ix_list (pe_fld (pv 4) rfl) pe_int (fun _ _ => rfl)) (pa_cons (pv 1) pa_nil)))))))
        (pss_one (ps_set (i := 2) sc_inn.nd rfl (.inl rfl) (pe_op op_or (pv 2) (pe_op op_shl pe_int (pv 3))))) pss_nil)))
    (pss_one (ps_ret (pv 2)))), ?_⟩)
  · obtain ⟨f, t, at_, rfl, _⟩ := h
    rfl
  · obtain ⟨f, t, at_, rfl, hF, hG, q⟩ := h
    obtain ⟨fx, fs, la, ls, us, f1, f2, f3, f4, f5, f6, f7, f8⟩ := hF.ex
    refine ⟨_, rfl, f, A.f, fx, fs, _, rfl, f1, T.cl_f, T.n_f_atoms, f2, la, us, rfl, SqL.of f6, ?_⟩
    refine for_enum (K := K) (a := la) (xs := us) (fun i σ H' => ∃ (v3 v4 : Option V), Same H H' ∧ σ = [some (.ref f), some (vI t), some (vI (mask (at_.take i) (innerQ at_ t))), v3, v4]) ?_ ?_ ?_ ?_
    · exact ⟨none, none, Same.refl H, rfl⟩
    · rintro i σ H' _ ⟨v3, v4, s1, _⟩
      exact SqL.of (s1 _ _ f6)
    · rintro i x U σ H' hx hU ⟨v3, v4, s1, rfl⟩
      obtain ⟨a, ha, hax⟩ := paired_at f7 hx
      obtain ⟨ca, dx, pl, pt, ps, rfl, h1, h2, h3, h4⟩ := hax.obj
      have s2 : Same H (upd H' U (.tup [.int (i : Nat), .ref ca])) := same_upd s1 (s1.free hU) _
      have hi : isAt a = true := hG.is a (List.mem_of_getElem? ha)
      refine ⟨U, _, rfl, SqT.of upd_same, rfl, _, _, rfl, _, _, rfl, rfl, ?_⟩
      refine ⟨_, rfl, ca, A.c, dx, _, _, rfl, s2 _ _ h1, T.cl_c, T.n_c_kind, cF_kind, rfl, _, rfl, ?_⟩
      show if (!decide (V.int ((kindOf a : Nat) : Int) = V.int ((2 : Nat) : Int))) = true then _ else _
      rw [neI]
      by_cases hk : kindOf a = 2
      · have hno : innerQ at_ t a = false := by
          cases a <;> first | rfl | (exact absurd hk (by simp [kindOf]))
        rw [if_neg (by rw [decide_eq_false (fun z => z hk)]; simp)]
        refine iteF ⟨some (.int (i : Nat)), some (.ref ca), s2, ?_⟩
        rw [mask_no ha hno]
        rfl
      · refine dec_true hk ?_
        -- the inner concept
        have hin : ∃ (d : C) (p : V), innerQ at_ t a = holds at_ t d ∧ ps = [p] ∧ CAt A.c H d p ∧ Cov at_ d ∧ (enc d).length ≤ 40 := by
          have hc := hG.cl a (List.mem_of_getElem? ha)
          have hs := hG.short a (List.mem_of_getElem? ha)
          cases a with
          | some r d =>
            match ps, h4 with
            | [p], .cons hp .nil => exact ⟨d, p, rfl, rfl, hp, fun b hb => hc b (List.mem_cons_of_mem _ hb), by simp [enc] at hs; omega⟩
          | all r d =>
            match ps, h4 with
            | [p], .cons hp .nil => exact ⟨d, p, rfl, rfl, hp, fun b hb => hc b (List.mem_cons_of_mem _ hb), by simp [enc] at hs; omega⟩
          | name b => exact absurd rfl hk
          | _ => cases hi
        obtain ⟨d, p, e1, rfl, hp, hcv, hln⟩ := hin
        refine ⟨_, rfl, f, fx, fs, rfl, s2 _ _ f1, f4, _, rfl, ca, A.c, dx, _, _, rfl, s2 _ _ h1, T.cl_c, T.n_c_parts, cF_parts, pl, _, _, _, rfl, rfl, SqL.of (s2 _ _ h2), atI_nat (xs := [p]) (j := 0) rfl, _, rfl, ?_⟩
        refine ⟨f, p, t, at_, d, rfl, hF.kp (kp_of s2), CAt.kp (kp_of s2) d p hp, hcv, hln, fun H3 s3 => ⟨_, rfl, ?_⟩⟩
        have s4 := s2.trans s3
        rw [← e1]
        cases hv : innerQ at_ t a with
        | false =>
          refine iteF ⟨some (.int (i : Nat)), some (.ref ca), s4, ?_⟩
          rw [mask_no ha hv]
          rfl
        | true =>
          refine iteT ⟨_, rfl, _, rfl, _, _, rfl, rfl, ⟨by omega, Int.ofNat_le.mpr (hG.lt ha), by decide⟩, _, _, rfl, rfl, some (.int (i : Nat)), some (.ref ca), s4, ?_⟩
          rw [← mask_or ha hv]
          rfl
    · rintro σ H' ⟨v3, v4, s1, rfl⟩
      rw [take_paired f7]
      exact ⟨_, rfl, q H' s1⟩
theorem sc_aw : FnScope ["self", "kind", "role", "found", "spot", "atom"] ["self", "kind", "role"] (defScope sAw) := ⟨rfl, rfl, rfl, by decide +kernel, rfl, by decide +kernel, by decide +kernel⟩
theorem ok_aw (T : Txt K mg A) : DefOk P w K mg base CX0 1 A.aw ["self", "kind", "role"] (spAw A) := by
  refine T.d_aw.ok sc_aw (fun vs H Q E h => ?_) (fun cdv B outer s H vs Q E hr h => ⟨_, pss_cons (ps_set (i := 3) sc_aw.nd rfl (.inl rfl) pe_int)
    (pss_cons (ps_for PassesOwn.never rfl (pi_enum rfl T.z_enumerate (pa_cons (pe_fld (pv 0) rfl) pa_nil)) (pg_tup rfl (pgs_cons (pg_name (i := 4) sc_aw.nd rfl (.inl rfl)) (pgs_cons (pg_name (i := 5) sc_aw.nd rfl (.inl rfl)) pgs_nil)))
      (pss_one (ps_if (PW.pt (pw_and (pt_cmpR op_eq (pe_fld (pv 5) rfl) (pv 1) (nomark _)) (pw_and1 (pt_cmpR op_eq (pe_fld (pv 5) rfl) (pv 2) (nomark _)))))
        (pss_one (ps_set (i := 3) sc_aw.nd rfl (.inl rfl) (pe_op op_or (pv 3) (pe_op op_shl pe_int (pv 4))))) pss_nil)))
    (pss_one (ps_ret (pv 3)))), ?_⟩)
  · obtain ⟨f, k, r, at_, rfl, _⟩ := h
    rfl
  · obtain ⟨f, k, r, at_, rfl, hF, hG, q⟩ := h
    obtain ⟨fx, fs, la, ls, us, f1, f2, f3, f4, f5, f6, f7, f8⟩ := hF.ex
    refine ⟨_, rfl, f, A.f, fx, fs, _, rfl, f1, T.cl_f, T.n_f_atoms, f2, la, us, rfl, SqL.of f6, ?_⟩
    refine for_enum (K := K) (a := la) (xs := us) (fun i σ H' => ∃ (v3 v4 : Option V), Same H H' ∧ σ = [some (.ref f), some (vI k), some (vI r), some (vI (mask (at_.take i) (kindRole k r))), v3, v4]) ?_ ?_ ?_ ?_
    · exact ⟨none, none, Same.refl H, rfl⟩
    · rintro i σ H' _ ⟨v3, v4, s1, _⟩
      exact SqL.of (s1 _ _ f6)
    · rintro i x U σ H' hx hU ⟨v3, v4, s1, rfl⟩
      obtain ⟨a, ha, hax⟩ := paired_at f7 hx
      obtain ⟨ca, dx, pl, pt, ps, rfl, h1, h2, h3, h4⟩ := hax.obj
      have s2 : Same H (upd H' U (.tup [.int (i : Nat), .ref ca])) := same_upd s1 (s1.free hU) _
      refine ⟨U, _, rfl, SqT.of upd_same, rfl, _, _, rfl, _, _, rfl, rfl, ?_⟩
      refine ⟨_, rfl, ca, A.c, dx, _, _, rfl, s2 _ _ h1, T.cl_c, T.n_c_kind, cF_kind, _, rfl, rfl, _, rfl, ?_⟩
      show if decide (V.int ((kindOf a : Nat) : Int) = V.int ((k : Nat) : Int)) = true then _ else _
      rw [eqI]
      by_cases hk : kindOf a = k
      · refine dec_true hk ⟨_, rfl, ca, A.c, dx, _, _, rfl, s2 _ _ h1, T.cl_c, T.n_c_number, cF_number, _, rfl, rfl, _, rfl, ?_⟩
        show if decide (V.int ((numOf a : Nat) : Int) = V.int ((r : Nat) : Int)) = true then _ else _
        rw [eqI]
        by_cases hr : numOf a = r
        · have e : kindRole k r a = true := by unfold kindRole; rw [hk, hr]; simp
          refine dec_true hr ⟨_, rfl, _, rfl, _, _, rfl, rfl, ⟨by omega, Int.ofNat_le.mpr (hG.lt ha), by decide⟩, _, _, rfl, rfl, some (.int (i : Nat)), some (.ref ca), s2, ?_⟩
          rw [← mask_or ha e]
          rfl
        · have e : kindRole k r a = false := by unfold kindRole; simp [hr]
          refine dec_false hr ⟨some (.int (i : Nat)), some (.ref ca), s2, ?_⟩
          rw [mask_no ha e]
          rfl
      · have e : kindRole k r a = false := by unfold kindRole; simp [hk]
        refine dec_false hk (iteF ⟨some (.int (i : Nat)), some (.ref ca), s2, ?_⟩)
        rw [mask_no ha e]
        rfl
    · rintro σ H' ⟨v3, v4, s1, rfl⟩
      rw [take_paired f7]
      exact ⟨_, rfl, q H' s1⟩
end
end Ax

namespace Ax
open PySem PySem.Spec PyProof.Rows L2
open Oc (C Axiom holds)
local macro_rules | `(tactic| walk_at "ax lk") => `(tactic| (first | with_reducible exact lk0 | with_reducible exact lkN | (refine (lk1 (by decide +kernel)).trans ?_; walk_at "ax lk")))
local macro_rules | `(tactic| walk_at "ax put") => `(tactic| (first | with_reducible exact putN | with_reducible exact put0 | (refine put1' (by decide +kernel) ?_; walk_at "ax put")))
abbrev fF (a s i : V) : List (Str × V) := [("atoms", a), ("spots", s), ("inner", i)]
abbrev fF2 (a s : V) : List (Str × V) := [("atoms", a), ("spots", s)]
abbrev fF1 (a : V) : List (Str × V) := [("atoms", a)]
theorem fF_1 {a : V} : putF "atoms" a [] = fF1 a := by walk_at "ax put"
theorem fF_2 {a s : V} : putF "spots" s (fF1 a) = fF2 a s := by walk_at "ax put"
theorem fF_3 {a s i : V} : putF "inner" i (fF2 a s) = fF a s i := by walk_at "ax put"
theorem fF2_atoms {a s : V} : (fF2 a s).lookup ("atoms" : Str) = some a := by walk_at "ax lk"
theorem fF1_atoms {a : V} : (fF1 a).lookup ("atoms" : Str) = some a := by walk_at "ax lk"
theorem fF2_spots {a s : V} : (fF2 a s).lookup ("spots" : Str) = some s := by walk_at "ax lk"
theorem fF2_so {a s : V} : (fF2 a s).lookup ("is_so" : Str) = none := by walk_at "ax lk"
theorem fF2_inn {a s : V} : (fF2 a s).lookup ("inner_of" : Str) = none := by walk_at "ax lk"
theorem fF_atoms {a s i : V} : (fF a s i).lookup ("atoms" : Str) = some a := by walk_at "ax lk"
theorem fF_spots {a s i : V} : (fF a s i).lookup ("spots" : Str) = some s := by walk_at "ax lk"
theorem fF_inner {a s i : V} : (fF a s i).lookup ("inner" : Str) = some i := by walk_at "ax lk"
theorem fF_so {a s i : V} : (fF a s i).lookup ("is_so" : Str) = none := by walk_at "ax lk"
theorem fF_inn {a s i : V} : (fF a s i).lookup ("inner_of" : Str) = none := by walk_at "ax lk"
theorem fF_aw {a s i : V} : (fF a s i).lookup ("atoms_with" : Str) = none := by walk_at "ax lk"
theorem fF_keep {a s i : V} : (fF a s i).lookup ("keeping" : Str) = none := by walk_at "ax lk"
theorem fF_win {a s i : V} : (fF a s i).lookup ("within" : Str) = none := by walk_at "ax lk"
theorem fF_fol {a s i : V} : (fF a s i).lookup ("followers" : Str) = none := by walk_at "ax lk"
theorem fF_srv {a s i : V} : (fF a s i).lookup ("is_served" : Str) = none := by walk_at "ax lk"
theorem fF_pos {a s i : V} : (fF a s i).lookup ("possible" : Str) = none := by walk_at "ax lk"
theorem fF_svA {a s i : V} : (fF a s i).lookup ("is_served_all" : Str) = none := by walk_at "ax lk"
theorem fF_und {a s i : V} : (fF a s i).lookup ("is_under" : Str) = none := by walk_at "ax lk"
/-- the list of what is inside, pattern by pattern -/
def innerL (at_ : List C) : List V := (List.range (2 ^ at_.length)).map fun t => vI (inner at_ t)
/-- a whole frame -/
structure FrAt (A : Ad) (H : Hp) (f : Addr) (at_ : List C) : Prop where
  ex : ∃ dx la ls li us, H f = some (.ins A.f dx (fF (.ref la) (.ref ls) (.ref li))) ∧ H la = some (.lst us) ∧ CsAt A.c H at_ us ∧ H ls = some (.dT (spotsL at_)) ∧ H li = some (.lst (innerL at_))
theorem FrAt.kp {A : Ad} {H H' : Hp} {f : Addr} {at_ : List C} (s : Kp H H') (h : FrAt A H f at_) : FrAt A H' f at_ := by
  obtain ⟨dx, la, ls, li, us, h1, h2, h3, h4, h5⟩ := h.ex
  exact ⟨dx, la, ls, li, us, s _ _ h1 (fun _ z => by cases z), s _ _ h2 (fun _ z => by cases z), h3.kp s, s _ _ h4 (fun _ z => by cases z), s _ _ h5 (fun _ z => by cases z)⟩
theorem FrAt.p {A : Ad} {H : Hp} {f : Addr} {at_ : List C} (h : FrAt A H f at_) : FrP A H f at_ := by
  obtain ⟨dx, la, ls, li, us, h1, h2, h3, h4, h5⟩ := h.ex
  exact ⟨dx, _, la, ls, us, h1, fF_atoms, fF_spots, fF_so, fF_inn, h2, h3, h4⟩
def spFI (A : Ad) (K : PySem.W.Frag) : Sp := fun vs H Q _ => ∃ (f dx a : Addr) (cs : List C) (us : List V) (G : Hp), vs = [.ref f, .ref a] ∧ H f = some (.ins A.f dx []) ∧ SqL K H a us ∧ Same G H ∧ G f = none ∧ CsAt A.c G cs us ∧ szs cs ≤ 1000 ∧ GoodAt (atomsP cs) ∧ (atomsP cs).length ≤ 10 ∧
  ∀ H', FrAt A H' f (atomsP cs) → (∀ b o, H b = some o → b ≠ f → H' b = some o) → Q .non H'
theorem spots_take {at_ : List C} {i : Nat} {a : C} (h : at_[i]? = some a) : spotsL (at_.take (i + 1)) = spotsL (at_.take i) ++ [(keyC a, vI i)] := by
  have hi : i < at_.length := (List.getElem?_eq_some_iff.mp h).1
  unfold spotsL
  rw [take_snoc h, List.zipIdx_append, List.map_append, List.length_take, Nat.min_eq_left (Nat.le_of_lt hi)]
  simp
theorem spots_none {at_ : List C} (nd : at_.Nodup) {i : Nat} {a : C} (h : at_[i]? = some a) : valV (spotsL (at_.take i)) (keyC a) = none := by
  have hno : a ∉ at_.take i := fun hm => by
    obtain ⟨j, hj⟩ := List.getElem?_of_mem hm
    have hjl : j < i := by
      have := (List.getElem?_eq_some_iff.mp hj).1
      rw [List.length_take] at this
      omega
    rw [List.getElem?_take_of_lt hjl] at hj
    obtain ⟨h1, e1⟩ := List.getElem?_eq_some_iff.mp h
    obtain ⟨h2, e2⟩ := List.getElem?_eq_some_iff.mp hj
    have := (List.getElem_inj nd).mp (e1.trans e2.symm)
    omega
  unfold spotsL
  rw [spots_from a (at_.take i) 0, List.idxOf?_eq_none_iff.mpr hno]
  rfl
theorem pow_small {n : Nat} (h : n ≤ 10) : 2 ^ n ≤ 1024 := Nat.pow_le_pow_right (by decide) h
theorem range_take {n i : Nat} (h : i < n) : (List.range n)[i]? = some i := by rw [List.getElem?_range h]
section
variable {P : Program} {w : World} {K : PySem.W.Frag} {mg : Str → Option Value} {base : Heap} {A : Ad}
abbrev N_fI : List Str := ["self", "concepts", "spot", "atom", "pattern"]
theorem sc_fI : FnScope N_fI ["self", "concepts"] (defScope sFI) := ⟨rfl, rfl, rfl, by decide +kernel, rfl, by decide +kernel, by decide +kernel⟩
theorem ok_fI (T : Txt K mg A) : DefOk P w K mg base CX0 43 A.fI ["self", "concepts"] (spFI A K) := by
  refine T.d_fI.ok sc_fI (fun vs H Q E h => ?_) (fun cdv B outer s H vs Q E hr h => ?_)
  · obtain ⟨f, dx, a, cs, us, G, rfl, _⟩ := h
    rfl
  have hr2 : Room 2 _ := hr.mono (by omega)
  refine ⟨_, pss_cons (ps_fld (pv 0) (dcall (ok_atoms T) hr2 T.g_atoms pass0 (pa_cons (pv 1) pa_nil)) rfl) (pss_cons (ps_fld (pv 0) pe_dnewT rfl)
    (pss_cons (ps_for PassesOwn.never rfl (pi_enum rfl T.z_enumerate (pa_cons (pe_fld (pv 0) rfl) pa_nil)) (pg_tup rfl (pgs_cons (pg_name (i := 2) sc_fI.nd rfl (.inl rfl)) (pgs_cons (pg_name (i := 3) sc_fI.nd rfl (.inl rfl)) pgs_nil)))
      (pss_one (ps_dput (hu_of hr) (pe_fld (pv 0) rfl) (pe_fld (pv 3) rfl) (pv 2) rfl)))
    (pss_one (ps_fld (pv 0) (pe_lc (own := [("pattern", 4)]) (g := gName 4) (tt := tYes) rfl sc_fI.nd (pi_range1 rfl T.z_range (pa_cons (pe_op op_shl pe_int (lenE T.z_len (pe_fld (pv 0) rfl))) pa_nil)) (blkOk_by (N := N_fI) (sc := defScope sFI) (by decide +kernel))
      (fun _ _ _ _ _ => pg_name (i := 4) sc_fI.nd rfl (Or.inl rfl)) (fun _ _ _ _ _ => pts_nil) (fun _ _ _ _ _ => dmeth (ok_inn T) hr T.cl_f T.m_inn pass0 (pv 0) (pa_cons (pv 4) pa_nil))) rfl)))), ?_⟩
  obtain ⟨f, dx, a, cs, us, G, rfl, hf, hS, sG, hGf, hC, hz, hGd, hfew, q⟩ := h
  -- self.atoms
  refine ⟨_, rfl, a, cs, us, G, rfl, hS, sG, hC, hz, fun l H1 ws s1 hl0 hl hW => ?_⟩
  have hf1 := s1 _ _ hf
  have hlf : l ≠ f := ne_of hl hf1 (by intro z; cases z)
  have hWl := hW.length
  refine ⟨_, rfl, f, A.f, dx, _, rfl, hf1, T.cl_f, T.n_f_atoms, ins_len (by show 0 ≤ 10; decide), ?_⟩
  rw [fF_1]
  -- self.spots
  intro d hd
  have hdf : d ≠ f := fun z => by rw [z, upd_same] at hd; cases hd
  have hdl : d ≠ l := fun z => by rw [z, upd_ne hlf, hl] at hd; cases hd
  have hd1 : H1 d = none := by rw [upd_ne hdf] at hd; exact hd
  refine ⟨_, rfl, f, A.f, dx, _, rfl, by rw [upd_ne (Ne.symm hdf)]; exact upd_same, T.cl_f, T.n_f_spots, ins_len (by show 1 ≤ 10; decide), ?_⟩
  rw [fF_2]
  -- the spots
  refine ⟨_, rfl, f, A.f, dx, _, _, rfl, upd_same, T.cl_f, T.n_f_atoms, fF2_atoms, l, ws, rfl, SqL.of (by rw [upd_ne hlf, upd_ne (Ne.symm hdl), upd_ne hlf]; exact hl), ?_⟩
  refine for_enum (K := K) (a := l) (xs := ws) (fun i σ H' => ∃ (v2 v3 v4 : Option V), (∀ b o, H1 b = some o → b ≠ f → H' b = some o) ∧ H' f = some (.ins A.f dx (fF2 (.ref l) (.ref d))) ∧ H' d = some (.dT (spotsL ((atomsP cs).take i))) ∧ σ = [some (.ref f), some (.ref a), v2, v3, v4]) ?_ ?_ ?_ ?_
  · refine ⟨none, none, none, fun b o e hb => ?_, upd_same, ?_, rfl⟩
    · rw [upd_ne hb, upd_ne (ne_of_none e hd1), upd_ne hb]; exact e
    · rw [upd_ne hdf, upd_same]; rfl
  · rintro i σ H' _ ⟨v2, v3, v4, k1, _⟩
    exact SqL.of (k1 _ _ hl hlf)
  · rintro i x U σ H' hx hU ⟨v2, v3, v4, k1, k2, k3, rfl⟩
    obtain ⟨c, hc, hcx⟩ := paired_at hW hx
    obtain ⟨ca, cx, pl, pt, ps, rfl, h1, h2, h3, h4⟩ := hcx.obj
    have hUf : f ≠ U := ne_of_none k2 hU
    have hUd : d ≠ U := ne_of_none k3 hU
    have kG : ∀ b o, G b = some o → upd H' U (.tup [.int (i : Nat), .ref ca]) b = some o := fun b o e => by
      have e1 := s1 _ _ (sG _ _ e)
      have hb : b ≠ f := fun z => by rw [z, hGf] at e; cases e
      have e2 := k1 b o e1 hb
      rw [upd_ne (ne_of_none e2 hU)]; exact e2
    have hkey : upd H' U (.tup [.int (i : Nat), .ref ca]) pt = some (.tup ((keyC c).map kV)) := by rw [keyC_kV]; exact kG _ _ h3
    have hk3 : upd H' U (.tup [.int (i : Nat), .ref ca]) d = some (.dT (spotsL ((atomsP cs).take i))) := by rw [upd_ne hUd]; exact k3
    have hsz : (spotsL ((atomsP cs).take i)).length < sizeLine := by
      unfold spotsL
      rw [List.length_map, List.length_zipIdx, List.length_take]
      exact small1000 (by omega)
    refine ⟨U, _, rfl, SqT.of upd_same, rfl, _, _, rfl, _, _, rfl, rfl, ?_⟩
    refine ⟨_, rfl, _, rfl, f, A.f, dx, _, _, rfl, by rw [upd_ne hUf]; exact k2, T.cl_f, T.n_f_spots, fF2_spots, _, rfl, ca, A.c, cx, _, _, rfl, kG _ _ h1, T.cl_c, T.n_c_numbers, cF_numbers, d, _, rfl, DPut.t hk3 hkey hsz, ?_⟩
    rw [putK_new _ (spots_none hGd.nd hc)]
    refine ⟨some (.int (i : Nat)), some (.ref ca), v4, fun b o e hb => ?_, ?_, ?_, rfl⟩
    · have e2 := k1 b o e hb
      rw [upd_ne (ne_of_none e hd1), upd_ne (ne_of_none e2 hU)]; exact e2
    · rw [upd_ne (Ne.symm hdf), upd_ne hUf]; exact k2
    · rw [upd_same, spots_take hc]
      rfl
  · rintro σ H' ⟨v2, v3, v4, k1, k2, k3, rfl⟩
    rw [take_paired hW] at k3
    have hl' := k1 _ _ hl hlf
    -- self.inner
    refine ⟨_, rfl, f, A.f, dx, _, _, rfl, k2, T.cl_f, T.n_f_atoms, fF2_atoms, l, _, rfl, .inl (SqL.of hl'), _, _, rfl, rfl, ⟨by omega, by omega, by decide⟩, ?_⟩
    have hpow := pow_small (show ws.length ≤ 10 by omega)
    have eI : (1 : Int) * 2 ^ (((ws.length : Nat) : Int)).toNat = ((2 ^ ws.length : Nat) : Int) := shl_nat _
    refine ⟨_, rfl, (by rw [eI]; exact Int.le_trans (by decide) (Int.natCast_nonneg _)), (by rw [eI]; exact Int.lt_of_le_of_lt (Int.ofNat_le.mpr hpow) (by decide)), fun D hD => ?_⟩
    have eN : ((1 : Int) * 2 ^ (((ws.length : Nat) : Int)).toNat).toNat = 2 ^ (atomsP cs).length := by rw [eI, Int.toNat_natCast, hWl]
    have hDf : f ≠ D := ne_of_none k2 hD
    refine lc_range (Pv := fun i H2 => (∀ b o, H' b = some o → H2 b = some o) ∧ H2 D = some (.lst (((List.range (2 ^ (atomsP cs).length)).take i).map fun t => vI (inner (atomsP cs) t)))) ?_ ?_ ?_
    · exact ⟨fun b o e => by rw [upd_ne (ne_of_none e hD)]; exact e, by rw [upd_same]; rfl⟩
    · rintro i H2 hi ⟨m1, m2⟩
      rw [eN] at hi
      refine ⟨rfl, ?_⟩
      have e0 : (0 : Int) + (i : Int) = (i : Int) := Int.zero_add _
      have kG : Same G H2 := fun b o e => m1 _ _ (k1 _ _ (s1 _ _ (sG _ _ e)) fun z => by rw [z, hGf] at e; cases e)
      refine ⟨_, rfl, f, dx, _, rfl, m1 _ _ k2, fF2_inn, _, rfl, f, i, atomsP cs, by rw [e0]; rfl, ?_, hGd, fun H3 s3 => ?_⟩
      · exact ⟨dx, _, l, d, ws, m1 _ _ k2, fF2_atoms, fF2_spots, fF2_so, fF2_inn, m1 _ _ hl', hW.kp (kp_of kG), m1 _ _ k3⟩
      · refine ⟨_, s3 _ _ m2, ?_, ?_, ?_⟩
        · rw [List.length_map, List.length_take, List.length_range]
          have : 2 ^ (atomsP cs).length ≤ 1024 := by rw [← hWl] at hpow; exact hpow
          exact Nat.lt_of_le_of_lt (Nat.min_le_right _ _) (Nat.lt_of_le_of_lt this (by decide))
        · intro b o e
          rw [upd_ne (ne_of_none e hD)]
          exact s3 _ _ (m1 _ _ e)
        · rw [upd_same, take_snoc (range_take hi), List.map_append]
          rfl
    · rintro H2 ⟨m1, m2⟩
      rw [eN] at m2
      have et : (List.range (2 ^ (atomsP cs).length)).take (2 ^ (atomsP cs).length) = List.range (2 ^ (atomsP cs).length) := by
        conv => lhs; arg 1; rw [← List.length_range (n := 2 ^ (atomsP cs).length)]
        exact List.take_length
      rw [et] at m2
      refine ⟨_, rfl, f, A.f, dx, _, rfl, m1 _ _ k2, T.cl_f, T.n_f_inner, ins_len (by show 2 ≤ 10; decide), ?_⟩
      rw [fF_3]
      have k5 : ∀ b o, H1 b = some o → b ≠ f → upd H2 f (.ins A.f dx (fF (.ref l) (.ref d) (.ref D))) b = some o := fun b o e hb => by
        rw [upd_ne hb]; exact m1 _ _ (k1 _ _ e hb)
      refine q _ ⟨dx, l, d, D, ws, upd_same, k5 _ _ hl hlf, hW.kp fun b o e _ => ?_, ?_, ?_⟩ fun b o e hb => k5 _ _ (s1 _ _ e) hb
      · exact k5 _ _ (s1 _ _ (sG _ _ e)) fun z => by rw [z, hGf] at e; cases e
      · rw [upd_ne hdf]; exact m1 _ _ k3
      · rw [upd_ne (Ne.symm hDf)]; exact m2
end
end Ax

namespace Ax
open PySem PySem.Spec PyProof.Rows L2
open Oc (C Axiom holds)
/-- an axiom's pair of concepts -/
structure PrAt (A : Ad) (H : Hp) (ax : Axiom) (v : V) : Prop where
  ex : ∃ p vc vd, v = .ref p ∧ H p = some (.lst [vc, vd]) ∧ CAt A.c H ax.1 vc ∧ CAt A.c H ax.2 vd
theorem PrAt.kp {A : Ad} {H H' : Hp} {ax : Axiom} {v : V} (s : Kp H H') (h : PrAt A H ax v) : PrAt A H' ax v := by
  obtain ⟨p, vc, vd, e, h1, h2, h3⟩ := h.ex
  exact ⟨p, vc, vd, e, s _ _ h1 (fun _ z => by cases z), CAt.kp s _ _ h2, CAt.kp s _ _ h3⟩
abbrev tys (at_ : List C) (P : Nat → Bool) : List Nat := (List.range (2 ^ at_.length)).filter P
def spKeep (A : Ad) (K : PySem.W.Frag) : Sp := fun vs H Q _ => ∃ (f a : Addr) (at_ : List C) (axs : List Axiom) (us : List V), vs = [.ref f, .ref a] ∧ FrAt A H f at_ ∧ GoodAt at_ ∧ at_.length ≤ 10 ∧ SqL K H a us ∧ Paired (PrAt A H) axs us ∧ axs.length ≤ 100 ∧
  (∀ ax ∈ axs, Cov at_ ax.1 ∧ Cov at_ ax.2 ∧ (enc ax.1).length ≤ 40 ∧ (enc ax.2).length ≤ 40) ∧ ∀ l H', Same H H' → H l = none → H' l = some (.lst ((tys at_ (Oc.keeps at_ axs)).map vI)) → Q (.ref l) H'
def spWin (A : Ad) : Sp := fun vs H Q _ => ∃ (f : Addr) (at_ : List C) (wd : Oc06.Words), vs = [.ref f, vI wd.names, vI wd.roles] ∧ FrAt A H f at_ ∧ GoodAt at_ ∧ at_.length ≤ 10 ∧
  ∀ l H', Same H H' → H l = none → H' l = some (.lst ((tys at_ (inSig wd at_)).map vI)) → Q (.ref l) H'
theorem dec_beq (a b : Nat) : decide (a = b) = (a == b) := by by_cases h : a = b <;> simp [h]
theorem filter_take {α : Type} {p : α → Bool} {l : List α} {i : Nat} {x : α} (h : l[i]? = some x) : (l.take (i + 1)).filter p = (l.take i).filter p ++ (if p x = true then [x] else []) := by
  rw [take_snoc h, List.filter_append]
  congr 1
  cases e : p x <;> simp [e]
theorem range_all (n : Nat) : (List.range n).take n = List.range n := by
  conv => lhs; arg 1; rw [← List.length_range (n := n)]
  exact List.take_length
theorem tys_small {at_ : List C} (h : at_.length ≤ 10) (P : Nat → Bool) (i : Nat) : (((List.range (2 ^ at_.length)).take i).filter P).length < sizeLine := by
  have h1 := List.length_filter_le P ((List.range (2 ^ at_.length)).take i)
  have h2 := pow_small h
  rw [List.length_take, List.length_range] at h1
  have : Nat.min i (2 ^ at_.length) ≤ 2 ^ at_.length := Nat.min_le_right _ _
  exact Nat.lt_of_le_of_lt (Nat.le_trans h1 (Nat.le_trans this h2)) (by decide)
theorem range_len {n : Nat} (h : n ≤ 10) : ((1 : Int) * 2 ^ (((n : Nat) : Int)).toNat) = ((2 ^ n : Nat) : Int) ∧ (-(2 ^ 62) : Int) ≤ (1 : Int) * 2 ^ (((n : Nat) : Int)).toNat ∧ (1 : Int) * 2 ^ (((n : Nat) : Int)).toNat < 2 ^ 62 ∧ ((1 : Int) * 2 ^ (((n : Nat) : Int)).toNat).toNat = 2 ^ n := by
  have e := shl_nat n
  refine ⟨e, ?_, ?_, by rw [e, Int.toNat_natCast]⟩
  · rw [e]; exact Int.le_trans (by decide) (Int.natCast_nonneg _)
  · rw [e]; exact Int.lt_of_le_of_lt (Int.ofNat_le.mpr (pow_small h)) (by decide)
theorem keeps_all {at_ : List C} {axs : List Axiom} {t : Nat} : (axs.map fun a => !holds at_ t a.1 || holds at_ t a.2).all id = Oc.keeps at_ axs t := by
  unfold Oc.keeps
  rw [List.all_map]
  rfl
section
variable {P : Program} {w : World} {K : PySem.W.Frag} {mg : Str → Option Value} {base : Heap} {A : Ad}
abbrev N_keep : List Str := ["self", "axioms", "found", "pattern", "one", "other"]
theorem sc_keep : FnScope N_keep ["self", "axioms"] (defScope sKeep) := ⟨rfl, rfl, rfl, by decide +kernel, rfl, by decide +kernel, by decide +kernel⟩
theorem ok_keep (T : Txt K mg A) : DefOk P w K mg base CX0 42 A.keep ["self", "axioms"] (spKeep A K) := by
  refine T.d_keep.ok sc_keep (fun vs H Q E h => ?_) (fun cdv B outer s H vs Q E hr h => ?_)
  · obtain ⟨f, a, at_, axs, us, rfl, _⟩ := h
    rfl
  refine ⟨_, pss_cons (ps_set (i := 2) sc_keep.nd rfl (.inl rfl) (pe_lst pa_nil))
    (pss_cons (ps_for PassesOwn.never rfl (pi_range1 rfl T.z_range (pa_cons (pe_op op_shl pe_int (lenE T.z_len (pe_fld (pv 0) rfl))) pa_nil)) (pg_name (i := 3) sc_keep.nd rfl (.inr rfl))
      (pss_one (ps_if (pt_val (pe_callB (cr_all rfl) rfl T.z_all (by decide +kernel) (pa_cons (pe_lc (own := [("one", 4), ("other", 5)]) (g := gUnl K 2 (gCons (gName 4) (gCons (gName 5) gNil))) (tt := tYes) rfl sc_keep.nd (pi_list (pv 1)) (blkOk_by (N := N_keep) (sc := defScope sKeep) (by decide +kernel))
        (fun _ _ _ _ _ => pg_unl rfl (pgs_cons (pg_name (i := 4) sc_keep.nd rfl (Or.inl rfl)) (pgs_cons (pg_name (i := 5) sc_keep.nd rfl (Or.inl rfl)) pgs_nil))) (fun _ _ _ _ _ => pts_nil)
        (fun _ _ _ _ _ => pe_or (pe_not (dmeth (ok_so T) hr T.cl_f T.m_so pass0 (pv 0) (pa_cons (pv 4) (pa_cons (pv 3) pa_nil)))) (pe_one (dmeth (ok_so T) hr T.cl_f T.m_so pass0 (pv 0) (pa_cons (pv 5) (pa_cons (pv 3) pa_nil)))))) pa_nil)))
        (pss_one (ps_expr (appE (pv 2) (pv 3)))) pss_nil)))
    (pss_one (ps_ret (pv 2)))), ?_⟩
  obtain ⟨f, a, at_, axs, us, rfl, hF, hG, hfew, hS, hA, hal, hcov, q⟩ := h
  obtain ⟨fx, la, ls, li, ws, f1, f2, f3, f4, f5⟩ := hF.ex
  refine ⟨(by show 0 ≤ sizeLine; decide), fun l hl => ?_⟩
  have s0 : Same H (upd H l (.lst [])) := same_new hl _
  have hlen : ws.length = at_.length := f3.length.symm
  obtain ⟨e1, e2, e3, e4⟩ := range_len (n := ws.length) (by omega)
  refine ⟨_, rfl, f, A.f, fx, _, _, rfl, s0 _ _ f1, T.cl_f, T.n_f_atoms, fF_atoms, la, _, rfl, .inl (SqL.of (s0 _ _ f2)), _, _, rfl, rfl, ⟨by omega, by omega, by decide⟩, _, rfl, e2, e3, ?_⟩
  rw [hlen] at e4
  refine for_range (lo := 0) (n := ((1 : Int) * 2 ^ (((ws.length : Nat) : Int)).toNat).toNat) (fun i σ H' => ∃ (v3 v4 v5 : Option V), σ = [some (.ref f), some (.ref a), some (.ref l), v3, v4, v5] ∧ Same H H' ∧ H' l = some (.lst ((((List.range (2 ^ at_.length)).take i).filter (Oc.keeps at_ axs)).map vI))) ?_ ?_ ?_
  · exact ⟨none, none, none, rfl, s0, upd_same⟩
  · rintro i σ H' hi ⟨v3, v4, v5, rfl, s1, k1⟩
    rw [hlen, e4] at hi
    have e0 : V.int ((0 : Int) + (i : Int)) = vI i := congrArg V.int (Int.zero_add _)
    rw [e0]
    have hS1 := s1.seq hS
    refine ⟨_, rfl, a, rfl, ⟨_, hS1⟩, fun D hD => ?_⟩
    have hDl : D ≠ l := fun z => by rw [z, k1] at hD; cases hD
    refine lc_list (K := K) (a := a) (xs := us) (fun j H2 => Same H' H2 ∧ H2 D = some (.lst (((axs.take j).map fun x => !holds at_ i x.1 || holds at_ i x.2).map V.bl))) ?_ ?_ ?_ ?_
    · exact ⟨same_new hD _, upd_same⟩
    · rintro j H2 _ ⟨m1, _⟩
      exact m1.seq hS1
    · rintro j x H2 hx ⟨m1, m2⟩
      obtain ⟨ax, hax, hp⟩ := paired_at hA hx
      obtain ⟨p, vc, vd, rfl, h1, h2, h3⟩ := hp.ex
      obtain ⟨c1, c2, c3, c4⟩ := hcov ax (List.mem_of_getElem? hax)
      have s2 : Same H H2 := s1.trans m1
      refine ⟨p, _, rfl, SqL.of (s2 _ _ h1), rfl, _, _, rfl, _, _, rfl, rfl, rfl, ?_⟩
      refine ⟨_, rfl, f, fx, _, rfl, s2 _ _ f1, fF_so, _, rfl, _, rfl, f, vc, i, at_, ax.1, rfl, (hF.kp (kp_of s2)).p, CAt.kp (kp_of s2) _ _ h2, c1, c3, fun H3 s3 => ⟨_, rfl, _, rfl, ?_⟩⟩
      have fin : ∀ (H4 : Hp) (b : Bool), Same H3 H4 → b = (!holds at_ i ax.1 || holds at_ i ax.2) → ∃ acc, H4 D = some (.lst acc) ∧ acc.length < sizeLine ∧ Same H' (upd H4 D (.lst (acc ++ [.bl b]))) ∧ upd H4 D (.lst (acc ++ [.bl b])) D = some (.lst (((axs.take (j + 1)).map fun x => !holds at_ i x.1 || holds at_ i x.2).map V.bl)) := fun H4 b s4 eb => by
        refine ⟨_, s4 _ _ (s3 _ _ m2), ?_, same_upd (m1.trans (s3.trans s4)) hD _, ?_⟩
        · rw [List.length_map, List.length_map, List.length_take]
          exact small1000 (by have := Nat.min_le_right j axs.length; omega)
        · rw [upd_same, take_snoc hax, List.map_append, List.map_append, eb]
          rfl
      cases hv : holds at_ i ax.1 with
      | false =>
        refine iteT (fin H3 _ (Same.refl _) ?_)
        rw [hv]; rfl
      | true =>
        refine iteF ⟨_, rfl, f, fx, _, rfl, s3 _ _ (s2 _ _ f1), fF_so, _, rfl, _, rfl, f, vd, i, at_, ax.2, rfl, (hF.kp (kp_of (s2.trans s3))).p, CAt.kp (kp_of (s2.trans s3)) _ _ h3, c2, c4, fun H4 s4 => ?_⟩
        refine fin H4 _ s4 ?_
        rw [hv]; rfl
    · rintro H2 ⟨m1, m2⟩
      have et : axs.take us.length = axs := take_paired hA
      rw [et] at m2
      refine ⟨D, _, rfl, SqL.of m2, _, rfl, ?_⟩
      rw [keeps_all]
      have s2 : Same H H2 := s1.trans m1
      have k2 := m1 _ _ k1
      cases hk : Oc.keeps at_ axs i with
      | false =>
        refine iteF ⟨some (vI i), v4, v5, rfl, s2, ?_⟩
        rw [filter_take (range_take hi), hk]
        simpa using k2
      | true =>
        refine iteT ⟨_, rfl, .inl ⟨rfl, _, SqL.of k2⟩, _, rfl, l, _, _, rfl, rfl, k2, by rw [List.length_map]; exact tys_small hfew _ _, some (vI i), v4, v5, rfl, same_upd s2 hl _, ?_⟩
        rw [upd_same, filter_take (range_take hi), hk, if_pos rfl, List.map_append]
        rfl
  · rintro σ H' ⟨v3, v4, v5, rfl, s1, k1⟩
    rw [hlen, e4, range_all] at k1
    exact ⟨_, rfl, q l H' s1 hl k1⟩
abbrev N_win : List Str := ["self", "names", "roles", "must", "free", "spot", "atom", "pattern"]
theorem sc_win : FnScope N_win ["self", "names", "roles"] (defScope sWin) := ⟨rfl, rfl, rfl, by decide +kernel, rfl, by decide +kernel, by decide +kernel⟩
theorem ok_win (T : Txt K mg A) : DefOk P w K mg base CX0 1 A.win ["self", "names", "roles"] (spWin A) := by
  refine T.d_win.ok sc_win (fun vs H Q E h => ?_) (fun cdv B outer s H vs Q E hr h => ?_)
  · obtain ⟨f, at_, wd, rfl, _⟩ := h
    rfl
  refine ⟨_, pss_cons (ps_set (i := 3) sc_win.nd rfl (.inr rfl) pe_int) (pss_cons (ps_set (i := 4) sc_win.nd rfl (.inr rfl) pe_int)
    (pss_cons (ps_for PassesOwn.never rfl (pi_enum rfl T.z_enumerate (pa_cons (pe_fld (pv 0) rfl) pa_nil)) (pg_tup rfl (pgs_cons (pg_name (i := 5) sc_win.nd rfl (.inl rfl)) (pgs_cons (pg_name (i := 6) sc_win.nd rfl (.inl rfl)) pgs_nil)))
      (pss_one (ps_if (pt_cmpR op_eq (pe_op op_and (pe_op op_shr (pe_ifExp (pt_cmpR op_eq (pe_fld (pv 6) rfl) (gi T.vNAME) (nomark _)) (pv 1) (pv 2)) (pe_fld (pv 6) rfl)) pe_int) pe_int (nomark _))
        (pss_one (ps_set (i := 4) sc_win.nd rfl (.inr rfl) (pe_op op_or (pv 4) (pe_op op_shl pe_int (pv 5)))))
        (pss_one (ps_if (pt_cmpR op_eq (pe_fld (pv 6) rfl) (gi T.vEVERY) (nomark _)) (pss_one (ps_set (i := 3) sc_win.nd rfl (.inr rfl) (pe_op op_or (pv 3) (pe_op op_shl pe_int (pv 5))))) pss_nil)))))
    (pss_one (ps_ret (pe_lc (own := [("pattern", 7)]) (g := gName 7) rfl sc_win.nd (pi_range1 rfl T.z_range (pa_cons (pe_op op_shl pe_int (lenE T.z_len (pe_fld (pv 0) rfl))) pa_nil)) (blkOk_by (N := N_win) (sc := defScope sWin) (by decide +kernel))
      (fun _ _ _ _ _ => pg_name (i := 7) sc_win.nd rfl (Or.inl rfl)) (fun _ _ _ _ _ => pts_one (pt_cmpR op_eq (pe_op op_or (pv 7) (pv 4)) (pe_op op_or (pv 3) (pv 4)) (nomark _))) (fun _ _ _ _ _ => pv 7)))))), ?_⟩
  obtain ⟨f, at_, wd, rfl, hF, hG, hfew, q⟩ := h
  obtain ⟨fx, la, ls, li, ws, f1, f2, f3, f4, f5⟩ := hF.ex
  refine ⟨_, rfl, f, A.f, fx, _, _, rfl, f1, T.cl_f, T.n_f_atoms, fF_atoms, la, ws, rfl, SqL.of f2, ?_⟩
  refine for_enum (K := K) (a := la) (xs := ws) (fun i σ H' => ∃ (v5 v6 v7 : Option V), Same H H' ∧ σ = [some (.ref f), some (vI wd.names), some (vI wd.roles), some (vI (mask (at_.take i) fun a => !freeA wd a && isAll a)), some (vI (mask (at_.take i) (freeA wd))), v5, v6, v7]) ?_ ?_ ?_ ?_
  · exact ⟨none, none, none, Same.refl H, rfl⟩
  · rintro i σ H' _ ⟨v5, v6, v7, s1, _⟩
    exact SqL.of (s1 _ _ f2)
  · rintro i x U σ H' hx hU ⟨v5, v6, v7, s1, rfl⟩
    obtain ⟨a, ha, hax⟩ := paired_at f3 hx
    obtain ⟨ca, dx, pl, pt, ps, rfl, h1, h2, h3, h4⟩ := hax.obj
    have s2 : Same H (upd H' U (.tup [.int (i : Nat), .ref ca])) := same_upd s1 (s1.free hU) _
    have hi : isAt a = true := hG.is a (List.mem_of_getElem? ha)
    refine ⟨U, _, rfl, SqT.of upd_same, rfl, _, _, rfl, _, _, rfl, rfl, ?_⟩
    refine ⟨_, rfl, ca, A.c, dx, _, _, rfl, s2 _ _ h1, T.cl_c, T.n_c_kind, cF_kind, rfl, _, rfl, ?_⟩
    show if decide (V.int ((kindOf a : Nat) : Int) = V.int ((2 : Nat) : Int)) = true then _ else _
    rw [eqI]
    have fr : ∀ m : Nat, (kindOf a = 2 → m = wd.names) → (kindOf a ≠ 2 → m = wd.roles) → m.testBit (numOf a) = freeA wd a := fun m e1 e2 => by
      cases a with
      | name b =>
        rw [e1 rfl]
        show wd.names.testBit b = Oc.bit wd.names b
        rw [bit_eq]
      | some r d =>
        rw [e2 (by show ¬ 6 = 2; decide)]
        show wd.roles.testBit r = Oc.bit wd.roles r
        rw [bit_eq]
      | all r d =>
        rw [e2 (by show ¬ 7 = 2; decide)]
        show wd.roles.testBit r = Oc.bit wd.roles r
        rw [bit_eq]
      | _ => cases hi
    have mf : freeA wd a = true → mask (at_.take (i + 1)) (fun a => !freeA wd a && isAll a) = mask (at_.take i) fun a => !freeA wd a && isAll a := fun e => mask_no ha (by simp [e])
    by_cases hk : kindOf a = 2 <;> first
      | (refine dec_true hk ⟨_, rfl, _, rfl, ca, A.c, dx, _, _, rfl, s2 _ _ h1, T.cl_c, T.n_c_number, cF_number, _, _, rfl, rfl, by omega, _, _, rfl, rfl, rfl, _, rfl, ?_⟩
         show if decide (V.int (Builtin.bitAnd ((wd.names : Int) / 2 ^ ((numOf a : Nat) : Int).toNat) 1) = V.int 1) = true then _ else _
         rw [bit_is, fr wd.names (fun _ => rfl) (fun z => absurd hk z)])
      | (refine dec_false hk ⟨_, rfl, _, rfl, ca, A.c, dx, _, _, rfl, s2 _ _ h1, T.cl_c, T.n_c_number, cF_number, _, _, rfl, rfl, by omega, _, _, rfl, rfl, rfl, _, rfl, ?_⟩
         show if decide (V.int (Builtin.bitAnd ((wd.roles : Int) / 2 ^ ((numOf a : Nat) : Int).toNat) 1) = V.int 1) = true then _ else _
         rw [bit_is, fr wd.roles (fun z => absurd z hk) (fun _ => rfl)])
    all_goals
      cases hfr : freeA wd a with
      | true =>
        refine iteT ⟨_, rfl, _, rfl, _, _, rfl, rfl, ⟨by omega, Int.ofNat_le.mpr (hG.lt ha), by decide⟩, _, _, rfl, rfl, some (.int (i : Nat)), some (.ref ca), v7, s2, ?_⟩
        rw [mf hfr, ← mask_or ha hfr]
        rfl
      | false =>
        refine iteF ⟨_, rfl, ca, A.c, dx, _, _, rfl, s2 _ _ h1, T.cl_c, T.n_c_kind, cF_kind, rfl, _, rfl, ?_⟩
        show if decide (V.int ((kindOf a : Nat) : Int) = V.int ((7 : Nat) : Int)) = true then _ else _
        rw [eqI]
        by_cases h7 : kindOf a = 7
        · have e : (fun a => !freeA wd a && isAll a) a = true := by
            cases a <;> first | (show (!freeA wd _ && _) = true; rw [hfr]; rfl) | (exact absurd h7 (by simp [kindOf]))
          refine dec_true h7 ⟨_, rfl, _, rfl, _, _, rfl, rfl, ⟨by omega, Int.ofNat_le.mpr (hG.lt ha), by decide⟩, _, _, rfl, rfl, some (.int (i : Nat)), some (.ref ca), v7, s2, ?_⟩
          rw [mask_no (g := freeA wd) ha hfr, ← mask_or ha e]
          rfl
        · have e : (fun a => !freeA wd a && isAll a) a = false := by
            cases a <;> first | (exact absurd rfl h7) | (show (_ && false) = false; simp)
          refine dec_false h7 ⟨some (.int (i : Nat)), some (.ref ca), v7, s2, ?_⟩
          rw [mask_no (g := freeA wd) ha hfr, mask_no ha e]
          rfl
  · rintro σ H' ⟨v5, v6, v7, s1, rfl⟩
    rw [take_paired f3]
    have hlen : ws.length = at_.length := f3.length.symm
    obtain ⟨e1, e2, e3, e4⟩ := range_len (n := ws.length) (by omega)
    refine ⟨_, rfl, f, A.f, fx, _, _, rfl, s1 _ _ f1, T.cl_f, T.n_f_atoms, fF_atoms, la, _, rfl, .inl (SqL.of (s1 _ _ f2)), _, _, rfl, rfl, ⟨by omega, by omega, by decide⟩, _, rfl, e2, e3, fun D hD => ?_⟩
    rw [hlen] at e4
    refine lc_range (lo := 0) (n := ((1 : Int) * 2 ^ (((ws.length : Nat) : Int)).toNat).toNat) (Pv := fun i H2 => Same H' H2 ∧ H2 D = some (.lst ((((List.range (2 ^ at_.length)).take i).filter (inSig wd at_)).map vI))) ?_ ?_ ?_
    · exact ⟨same_new hD _, upd_same⟩
    · rintro i H2 hi ⟨m1, m2⟩
      rw [hlen, e4] at hi
      have e0 : V.int ((0 : Int) + (i : Int)) = vI i := congrArg V.int (Int.zero_add _)
      rw [e0]
      refine ⟨rfl, _, rfl, _, rfl, _, _, rfl, rfl, _, rfl, _, rfl, _, _, rfl, rfl, rfl, _, rfl, ?_⟩
      show if decide (V.int (Builtin.bitOr (i : Int) ((freeM at_ wd : Nat) : Int)) = V.int (Builtin.bitOr ((mustM at_ wd : Nat) : Int) ((freeM at_ wd : Nat) : Int))) = true then _ else _
      rw [bitOr_nat, bitOr_nat, eqI, dec_beq, within_law hi]
      cases hk : inSig wd at_ i with
      | false =>
        refine iteF ⟨m1, ?_⟩
        rw [filter_take (range_take hi), hk]
        simpa using m2
      | true =>
        refine iteT ⟨_, rfl, _, m2, by rw [List.length_map]; exact tys_small hfew _ _, same_upd m1 hD _, ?_⟩
        rw [upd_same, filter_take (range_take hi), hk, if_pos rfl, List.map_append]
        rfl
    · rintro H2 ⟨m1, m2⟩
      rw [hlen, e4, range_all] at m2
      have hD0 : H D = none := s1.free hD
      exact q D H2 (s1.trans m1) hD0 m2
end
end Ax

namespace Ax
open PySem PySem.Spec PyProof.Rows L2
open Oc (C Axiom holds)
/-- a list of patterns -/
structure PatAt (K : PySem.W.Frag) (H : Hp) (a : Addr) (at_ : List C) (l : List Nat) : Prop where
  sq : SqL K H a (l.map vI)
  lt : ∀ t ∈ l, t < 2 ^ at_.length
  len : l.length ≤ 1024
theorem PatAt.same {K : PySem.W.Frag} {H H' : Hp} {a : Addr} {at_ : List C} {l : List Nat} (s : Same H H') (h : PatAt K H a at_ l) : PatAt K H' a at_ l := ⟨s.seq h.sq, h.lt, h.len⟩
def spFol (A : Ad) (K : PySem.W.Frag) : Sp := fun vs H Q _ => ∃ (f a : Addr) (t r : Nat) (at_ : List C) (l : List Nat), vs = [.ref f, vI t, .ref a, vI r] ∧ FrAt A H f at_ ∧ GoodAt at_ ∧ PatAt K H a at_ l ∧
  ∀ p H', Same H H' → H p = none → H' p = some (.lst ((l.filter (fol at_ r t)).map vI)) → Q (.ref p) H'
def spSrv (A : Ad) (K : PySem.W.Frag) : Sp := fun vs H Q _ => ∃ (f a : Addr) (t r : Nat) (at_ : List C) (l : List Nat), vs = [.ref f, vI t, .ref a, vI r] ∧ FrAt A H f at_ ∧ GoodAt at_ ∧ PatAt K H a at_ l ∧
  ∀ H', Same H H' → Q (.bl (served at_ l r t)) H'
def spSvA (A : Ad) (K : PySem.W.Frag) : Sp := fun vs H Q _ => ∃ (f a : Addr) (t : Nat) (at_ : List C) (l : List Nat), vs = [.ref f, vI t, .ref a] ∧ FrAt A H f at_ ∧ GoodAt at_ ∧ PatAt K H a at_ l ∧
  ∀ H', Same H H' → Q (.bl (Oc.borne at_ l t)) H'
def spPos (A : Ad) (K : PySem.W.Frag) : Sp := fun vs H Q _ => ∃ (f a : Addr) (at_ : List C) (l : List Nat), vs = [.ref f, .ref a] ∧ FrAt A H f at_ ∧ GoodAt at_ ∧ PatAt K H a at_ l ∧
  ∀ p H', Same H H' → H p = none → H' p = some (.lst ((stl at_ l).map vI)) → Q (.ref p) H'
def spUnd (A : Ad) (K : PySem.W.Frag) : Sp := fun vs H Q _ => ∃ (f a : Addr) (vc vd : V) (c d : C) (at_ : List C) (l : List Nat), vs = [.ref f, vc, vd, .ref a] ∧ FrAt A H f at_ ∧ GoodAt at_ ∧ PatAt K H a at_ l ∧ CAt A.c H c vc ∧ CAt A.c H d vd ∧ Cov at_ c ∧ Cov at_ d ∧ (enc c).length ≤ 40 ∧ (enc d).length ≤ 40 ∧
  ∀ H', Same H H' → Q (.bl (!(stl at_ l).any fun t => holds at_ t c && !holds at_ t d)) H'
theorem inner_at {at_ : List C} {u : Nat} (h : u < 2 ^ at_.length) : atI (innerL at_) (u : Int) = some (vI (inner at_ u)) := by
  refine atI_nat ?_
  unfold innerL
  rw [List.getElem?_map, range_take h]
  rfl
theorem vI_at {l : List Nat} {i : Nat} {x : V} (h : (l.map vI)[i]? = some x) : ∃ u, l[i]? = some u ∧ x = vI u := by
  rw [List.getElem?_map] at h
  cases e : l[i]? with
  | none => rw [e] at h; cases h
  | some u => rw [e] at h; exact ⟨u, rfl, (Option.some.inj h).symm⟩
theorem filt_small {l : List Nat} (h : l.length ≤ 1024) (p : Nat → Bool) (i : Nat) : (((l.take i).filter p).map vI).length < sizeLine := by
  have h1 := List.length_filter_le p (l.take i)
  rw [List.length_take] at h1
  rw [List.length_map]
  have h2 : Nat.min i l.length ≤ l.length := Nat.min_le_right _ _
  exact Nat.lt_of_le_of_lt (Nat.le_trans h1 (Nat.le_trans h2 h)) (by decide)
section
variable {P : Program} {w : World} {K : PySem.W.Frag} {mg : Str → Option Value} {base : Heap} {A : Ad}
abbrev N_fol : List Str := ["self", "pattern", "some", "role", "wanted", "barred", "found", "other"]
theorem sc_fol : FnScope N_fol ["self", "pattern", "some", "role"] (defScope sFol) := ⟨rfl, rfl, rfl, by decide +kernel, rfl, by decide +kernel, by decide +kernel⟩
theorem ok_fol (T : Txt K mg A) : DefOk P w K mg base CX0 2 A.fol ["self", "pattern", "some", "role"] (spFol A K) := by
  refine T.d_fol.ok sc_fol (fun vs H Q E h => ?_) (fun cdv B outer s H vs Q E hr h => ⟨_, pss_cons (ps_set (i := 4) sc_fol.nd rfl (.inl rfl) (pe_op op_and (pv 1) (dmeth (ok_aw T) hr T.cl_f T.m_aw pass0 (pv 0) (pa_cons (gi T.vEVERY) (pa_cons (pv 3) pa_nil)))))
    (pss_cons (ps_set (i := 5) sc_fol.nd rfl (.inl rfl) (pe_op op_and (dmeth (ok_aw T) hr T.cl_f T.m_aw pass0 (pv 0) (pa_cons (gi T.vSOME) (pa_cons (pv 3) pa_nil))) (pe_un un_inv (pv 1))))
    (pss_cons (ps_set (i := 6) sc_fol.nd rfl (.inl rfl) (pe_lst pa_nil))
    (pss_cons (ps_for PassesOwn.never rfl (pi_list (pv 2)) (pg_name (i := 7) sc_fol.nd rfl (.inl rfl))
      (pss_one (ps_if (PW.pt (pw_and (pt_cmpR op_eq (pe_op op_and (pe_ix ix_list (pe_fld (pv 0) rfl) (pv 7) (fun _ _ => rfl)) (pv 4)) (pv 4) (nomark _)) (pw_and1 (pt_cmpR op_eq (pe_op op_and (pe_ix ix_list (pe_fld (pv 0) rfl) (pv 7) (fun _ _ => rfl)) (pv 5)) pe_int (nomark _)))))
        (pss_one (ps_expr (appE (pv 6) (pv 7)))) pss_nil)))
    (pss_one (ps_ret (pv 6)))))), ?_⟩)
  · obtain ⟨f, a, t, r, at_, l, rfl, _⟩ := h
    rfl
  · obtain ⟨f, a, t, r, at_, l, rfl, hF, hG, hP, q⟩ := h
    obtain ⟨fx, la, ls, li, ws, f1, f2, f3, f4, f5⟩ := hF.ex
    refine ⟨_, rfl, _, rfl, f, fx, _, rfl, f1, fF_aw, _, rfl, f, 7, r, at_, rfl, hF.p, hG, fun H1 s1 => ⟨_, _, rfl, rfl, ?_⟩⟩
    refine ⟨_, rfl, f, fx, _, rfl, s1 _ _ f1, fF_aw, _, rfl, f, 6, r, at_, rfl, (hF.kp (kp_of s1)).p, hG, fun H2 s2' => ⟨_, rfl, _, rfl, _, _, rfl, rfl, ?_⟩⟩
    have s2 := s1.trans s2'
    refine ⟨(by show 0 ≤ sizeLine; decide), fun p hp => ?_⟩
    have s3 : Same H (upd H2 p (.lst [])) := same_upd s2 (s2.free hp) _
    have e1 : V.int (Builtin.bitAnd (t : Int) ((mask at_ (kindRole 7 r) : Nat) : Int)) = vI (wanted at_ t r) := by rw [and_nat]; rfl
    have e2 : V.int (Builtin.bitAnd ((mask at_ (kindRole 6 r) : Nat) : Int) (Builtin.bitNot (t : Int))) = vI (barred at_ t r) := by rw [and_not_nat]; rfl
    refine ⟨_, rfl, a, rfl, ⟨_, s3.seq hP.sq⟩, ?_⟩
    refine for_list (K := K) (a := a) (xs := l.map vI) (fun i σ H' => ∃ (v7 : Option V), Same H H' ∧ H' p = some (.lst (((l.take i).filter (fol at_ r t)).map vI)) ∧ σ = [some (.ref f), some (vI t), some (.ref a), some (vI r), some (vI (wanted at_ t r)), some (vI (barred at_ t r)), some (.ref p), v7]) ?_ ?_ ?_ ?_
    · refine ⟨none, s3, upd_same, ?_⟩
      rw [← e1, ← e2]
      rfl
    · rintro i σ H' _ ⟨v7, m1, _⟩
      exact m1.seq hP.sq
    · rintro i x σ H' hx ⟨v7, m1, m2, rfl⟩
      obtain ⟨u, hu, rfl⟩ := vI_at hx
      have hul := hP.lt u (List.mem_of_getElem? hu)
      refine ⟨_, rfl, f, A.f, fx, _, _, rfl, m1 _ _ f1, T.cl_f, T.n_f_inner, fF_inner, _, rfl, li, _, _, _, rfl, rfl, SqL.of (m1 _ _ f5), inner_at hul, _, rfl, _, _, rfl, rfl, _, rfl, rfl, _, rfl, ?_⟩
      show if decide (V.int (Builtin.bitAnd ((inner at_ u : Nat) : Int) ((wanted at_ t r : Nat) : Int)) = V.int ((wanted at_ t r : Nat) : Int)) = true then _ else _
      rw [and_nat, eqI, dec_beq]
      have ef : fol at_ r t u = ((inner at_ u &&& wanted at_ t r == wanted at_ t r) && (inner at_ u &&& barred at_ t r == 0)) := rfl
      cases h1 : (inner at_ u &&& wanted at_ t r == wanted at_ t r) with
      | false =>
        refine iteF (iteF ⟨_, m1, ?_, rfl⟩)
        rw [filter_take hu, ef, h1]
        simpa using m2
      | true =>
        refine iteT ⟨_, rfl, f, A.f, fx, _, _, rfl, m1 _ _ f1, T.cl_f, T.n_f_inner, fF_inner, _, rfl, li, _, _, _, rfl, rfl, SqL.of (m1 _ _ f5), inner_at hul, _, rfl, _, _, rfl, rfl, rfl, _, rfl, ?_⟩
        show if decide (V.int (Builtin.bitAnd ((inner at_ u : Nat) : Int) ((barred at_ t r : Nat) : Int)) = V.int ((0 : Nat) : Int)) = true then _ else _
        rw [and_nat, eqI, dec_beq]
        cases h2 : (inner at_ u &&& barred at_ t r == 0) with
        | false =>
          refine iteF ⟨_, m1, ?_, rfl⟩
          rw [filter_take hu, ef, h1, h2]
          simpa using m2
        | true =>
          refine iteT ⟨_, rfl, .inl ⟨rfl, _, SqL.of m2⟩, _, rfl, p, _, _, rfl, rfl, m2, filt_small hP.len _ _, _, same_upd m1 (s2.free hp) _, ?_, rfl⟩
          rw [upd_same, filter_take hu, ef, h1, h2]
          simp [vI]
    · rintro σ H' ⟨v7, m1, m2, rfl⟩
      rw [List.length_map, List.take_length] at m2
      exact ⟨_, rfl, q p H' m1 (s2.free hp) m2⟩
abbrev N_srv : List Str := ["self", "pattern", "some", "role", "followers", "spot", "atom", "has", "other"]
theorem sc_srv : FnScope N_srv ["self", "pattern", "some", "role"] (defScope sSrv) := ⟨rfl, rfl, rfl, by decide +kernel, rfl, by decide +kernel, by decide +kernel⟩
theorem toNat_eq (a b : Bool) : decide (a.toNat = b.toNat) = (a == b) := by cases a <;> cases b <;> rfl
theorem ok_srv (T : Txt K mg A) : DefOk P w K mg base CX0 3 A.srv ["self", "pattern", "some", "role"] (spSrv A K) := by
  refine T.d_srv.ok sc_srv (fun vs H Q E h => ?_) (fun cdv B outer s H vs Q E hr h => ⟨_, pss_cons (ps_set (i := 4) sc_srv.nd rfl (.inl rfl) (dmeth (ok_fol T) hr T.cl_f T.m_fol pass0 (pv 0) (pa_cons (pv 1) (pa_cons (pv 2) (pa_cons (pv 3) pa_nil)))))
    (pss_cons (ps_for PassesOwn.never rfl (pi_enum rfl T.z_enumerate (pa_cons (pe_fld (pv 0) rfl) pa_nil)) (pg_tup rfl (pgs_cons (pg_name (i := 5) sc_srv.nd rfl (.inr rfl)) (pgs_cons (pg_name (i := 6) sc_srv.nd rfl (.inl rfl)) pgs_nil)))
      (pss_cons (ps_set (i := 7) sc_srv.nd rfl (.inr rfl) (pe_op op_and (pe_op op_shr (pv 1) (pv 5)) pe_int))
      (pss_one (ps_if (PW.pt (pw_and (pt_cmpR op_eq (pe_fld (pv 6) rfl) (pv 3) (nomark _)) (pw_and1 (PW.pt (pw_or (PW.pt (pw_and (pt_cmpR op_eq (pe_fld (pv 6) rfl) (gi T.vSOME) (nomark _)) (pw_and1 (pt_cmpR op_eq (pv 7) pe_int (nomark _))))) (pw_or1 (PW.pt (pw_and (pt_cmpR op_eq (pe_fld (pv 6) rfl) (gi T.vEVERY) (nomark _)) (pw_and1 (pt_cmpR op_eq (pv 7) pe_int (nomark _)))))))))))
        (pss_one (ps_if (pt_cmpR op_eq (lenE T.z_len (pe_lc (own := [("other", 8)]) (g := gName 8) (tt := tTest (tOp rEq (tOp (rI0 fun i j => .int (Builtin.bitAnd i j)) (tOp (rI (fun _ j => 0 ≤ j) fun i j => .int (i / 2 ^ j.toNat)) (tOp (rIxL K) (tFld K (tVar 0) "inner") (tVar 8)) (tVar 5)) (tC (.int 1))) (tVar 7))) (te := tVar 8) rfl sc_srv.nd (pi_list (pv 4)) (blkOk_by (N := N_srv) (sc := defScope sSrv) (by decide +kernel))
          (fun _ _ _ _ _ => pg_name (i := 8) sc_srv.nd rfl (Or.inl rfl)) (fun _ _ _ _ _ => pts_one (pt_cmpR op_eq (pe_op op_and (pe_op op_shr (pe_ix ix_list (pe_fld (pv 0) rfl) (pv 8) (fun _ _ => rfl)) (pv 5)) pe_int) (pv 7) (nomark _))) (fun _ _ _ _ _ => pv 8))) pe_int (nomark _))
          (pss_one (ps_ret pe_bl)) pss_nil)) pss_nil))))
    (pss_one (ps_ret pe_bl))), ?_⟩)
  · obtain ⟨f, a, t, r, at_, l, rfl, _⟩ := h
    rfl
  · obtain ⟨f, a, t, r, at_, l, rfl, hF, hG, hP, q⟩ := h
    obtain ⟨fx, la, ls, li, ws, f1, f2, f3, f4, f5⟩ := hF.ex
    refine ⟨_, rfl, f, fx, _, rfl, f1, fF_fol, _, rfl, _, rfl, _, rfl, f, a, t, r, at_, l, rfl, hF, hG, hP, fun p H1 s1 hp0 hp => ?_⟩
    refine ⟨_, rfl, f, A.f, fx, _, _, rfl, s1 _ _ f1, T.cl_f, T.n_f_atoms, fF_atoms, la, ws, rfl, SqL.of (s1 _ _ f2), ?_⟩
    refine for_enum (K := K) (a := la) (xs := ws) (fun i σ H' => ∃ (v5 v6 v7 v8 : Option V), Same H H' ∧ H' p = some (.lst ((l.filter (fol at_ r t)).map vI)) ∧ (∀ k < i, ∀ a, at_[k]? = some a → serv1 at_ l r t k a = true) ∧ σ = [some (.ref f), some (vI t), some (.ref a), some (vI r), some (.ref p), v5, v6, v7, v8]) ?_ ?_ ?_ ?_
    · exact ⟨none, none, none, none, s1, hp, fun k hk => absurd hk (Nat.not_lt_zero _), rfl⟩
    · rintro i σ H' _ ⟨v5, v6, v7, v8, m1, _⟩
      exact SqL.of (m1 _ _ f2)
    · rintro i x U σ H' hx hU ⟨v5, v6, v7, v8, m1, m2, m3, rfl⟩
      obtain ⟨b, hb, hbx⟩ := paired_at f3 hx
      obtain ⟨ca, dx, pl, pt, ps, rfl, h1, h2, h3, h4⟩ := hbx.obj
      have s2 : Same H (upd H' U (.tup [.int (i : Nat), .ref ca])) := same_upd m1 (m1.free hU) _
      have p2 : upd H' U (.tup [.int (i : Nat), .ref ca]) p = some (.lst ((l.filter (fol at_ r t)).map vI)) := by rw [upd_ne (ne_of_none m2 hU)]; exact m2
      have fin : ∀ {H2 : Hp}, Same H H2 → H2 p = some (.lst ((l.filter (fol at_ r t)).map vI)) → serv1 at_ l r t i b = true → ∃ (v5 v6 v7 v8_1 : Option V), Same H H2 ∧ H2 p = some (.lst ((l.filter (fol at_ r t)).map vI)) ∧ (∀ k < i + 1, ∀ a, at_[k]? = some a → serv1 at_ l r t k a = true) ∧
          [some (V.ref f), some (vI t), some (.ref a), some (vI r), some (.ref p), some (.int (i : Nat)), some (.ref ca), some (.int (Builtin.bitAnd ((t : Int) / 2 ^ ((i : Nat) : Int).toNat) 1)), v8] = [some (.ref f), some (vI t), some (.ref a), some (vI r), some (.ref p), v5, v6, v7, v8_1] := fun {H2} k1 k2 k3 =>
        ⟨_, _, _, _, k1, k2, fun k hk a' ha' => (Nat.lt_succ_iff_lt_or_eq.mp hk).elim (fun z => m3 k z a' ha') (fun z => by subst z; rw [hb] at ha'; cases ha'; exact k3), rfl⟩
      have noN : numOf b ≠ r → serv1 at_ l r t i b = true := fun z => if_neg fun h => z h.1
      have noC : ¬ ((kindOf b = 6 ∧ t.testBit i = true) ∨ (kindOf b = 7 ∧ t.testBit i = false)) → serv1 at_ l r t i b = true := fun z => if_neg fun h => z h.2
      refine ⟨U, _, rfl, SqT.of upd_same, rfl, _, _, rfl, _, _, rfl, rfl, ?_⟩
      refine ⟨_, rfl, _, rfl, _, _, rfl, rfl, by omega, _, _, rfl, rfl, ?_⟩
      refine ⟨_, rfl, ca, A.c, dx, _, _, rfl, s2 _ _ h1, T.cl_c, T.n_c_number, cF_number, _, rfl, rfl, _, rfl, ?_⟩
      show if decide (V.int ((numOf b : Nat) : Int) = V.int ((r : Nat) : Int)) = true then _ else _
      rw [eqI]
      by_cases hn : numOf b = r
      rotate_left
      · exact dec_false hn (iteF (fin s2 p2 (noN hn)))
      refine dec_true hn ⟨_, rfl, ca, A.c, dx, _, _, rfl, s2 _ _ h1, T.cl_c, T.n_c_kind, cF_kind, rfl, _, rfl, ?_⟩
      show if decide (V.int ((kindOf b : Nat) : Int) = V.int ((6 : Nat) : Int)) = true then _ else _
      rw [eqI]
      have h7 : ∀ {Z : Prop}, (kindOf b = 7 → Z) → (kindOf b ≠ 7 → Z) → Z := fun {Z} x y => by
        by_cases z : kindOf b = 7
        · exact x z
        · exact y z
      by_cases k6 : kindOf b = 6
      · refine dec_true k6 ⟨_, rfl, rfl, _, rfl, ?_⟩
        show if decide (V.int (Builtin.bitAnd ((t : Int) / 2 ^ ((i : Nat) : Int).toNat) 1) = V.int 1) = true then _ else _
        rw [bit_is]
        cases ht : t.testBit i with
        | true =>
          have cnd : numOf b = r ∧ ((kindOf b = 6 ∧ t.testBit i = true) ∨ (kindOf b = 7 ∧ t.testBit i = false)) := ⟨hn, .inl ⟨k6, ht⟩⟩
          refine iteT (iteT ?_)
          refine ⟨_, rfl, p, rfl, ⟨_, SqL.of p2⟩, fun D hD => ?_⟩
          have hDp : D ≠ p := fun z => by rw [z, p2] at hD; cases hD
          refine lc_list (K := K) (a := p) (xs := (l.filter (fol at_ r t)).map vI) (fun j H2 => Same (upd H' U (.tup [.int (i : Nat), .ref ca])) H2 ∧ H2 D = some (.lst ((((l.filter (fol at_ r t)).take j).filter fun u => (inner at_ u).testBit i == t.testBit i).map vI))) ?_ ?_ ?_ ?_
          · exact ⟨same_new hD _, upd_same⟩
          · rintro j H2 _ ⟨n1, _⟩
            exact SqL.of (n1 _ _ p2)
          · rintro j x H2 hx ⟨n1, n2⟩
            obtain ⟨u, hu, rfl⟩ := vI_at hx
            have hum : u ∈ l := (List.mem_filter.mp (List.mem_of_getElem? hu)).1
            refine ⟨rfl, _, rfl, f, A.f, fx, _, _, rfl, n1 _ _ (s2 _ _ f1), T.cl_f, T.n_f_inner, fF_inner, _, rfl, li, _, _, _, rfl, rfl, SqL.of (n1 _ _ (s2 _ _ f5)), inner_at (hP.lt u hum), _, rfl, _, _, rfl, rfl, by omega, _, _, rfl, rfl, _, rfl, rfl, _, rfl, ?_⟩
            show if decide (V.int (Builtin.bitAnd (((inner at_ u : Nat) : Int) / 2 ^ ((i : Nat) : Int).toNat) 1) = V.int (Builtin.bitAnd ((t : Int) / 2 ^ ((i : Nat) : Int).toNat) 1)) = true then _ else _
            rw [bit_val, bit_val, show decide (vI ((inner at_ u).testBit i).toNat = vI (t.testBit i).toNat) = _ from eqI _ _, toNat_eq]
            cases hbit : ((inner at_ u).testBit i == t.testBit i) with
            | false =>
              refine iteF ⟨n1, ?_⟩
              rw [filter_take hu, hbit]
              simpa using n2
            | true =>
              refine iteT ⟨_, rfl, _, n2, ?_, same_upd n1 hD _, ?_⟩
              · exact filt_small (Nat.le_trans (List.length_filter_le _ _) hP.len) _ _
              · rw [upd_same, filter_take hu, hbit, if_pos rfl, List.map_append]
                rfl
          · rintro H2 ⟨n1, n2⟩
            rw [List.length_map, List.take_length] at n2
            refine ⟨D, _, rfl, .inl (SqL.of n2), rfl, _, rfl, ?_⟩
            have s3 := s2.trans n1
            have p3 := n1 _ _ p2
            have ec : serv1 at_ l r t i b = (l.filter (fol at_ r t)).any fun u => (inner at_ u).testBit i == t.testBit i := if_pos cnd
            rw [List.length_map]
            show if decide (V.int (((((l.filter (fol at_ r t)).filter fun u => (inner at_ u).testBit i == t.testBit i).length : Nat)) : Int) = V.int ((0 : Nat) : Int)) = true then _ else _
            rw [eqI]
            by_cases hz : ((l.filter (fol at_ r t)).filter fun u => (inner at_ u).testBit i == t.testBit i).length = 0
            · have e0 : served at_ l r t = false := by
                cases e : served at_ l r t with
                | false => rfl
                | true =>
                  have z := served_iff.mp e i b hb
                  rw [ec, List.any_eq_true] at z
                  obtain ⟨u, hu, hbit⟩ := z
                  have : u ∈ (l.filter (fol at_ r t)).filter fun u => (inner at_ u).testBit i == t.testBit i := List.mem_filter.mpr ⟨hu, hbit⟩
                  rw [List.length_eq_zero_iff.mp hz] at this
                  cases this
              rw [e0] at q
              exact dec_true hz (q _ s3)
            · refine dec_false hz (fin s3 p3 ?_)
              rw [ec, List.any_eq_true]
              obtain ⟨u, hu⟩ := List.exists_mem_of_length_pos (Nat.pos_of_ne_zero hz)
              exact ⟨u, (List.mem_filter.mp hu).1, (List.mem_filter.mp hu).2⟩
        | false =>
          refine iteF ⟨_, rfl, ca, A.c, dx, _, _, rfl, s2 _ _ h1, T.cl_c, T.n_c_kind, cF_kind, rfl, _, rfl, ?_⟩
          show if decide (V.int ((kindOf b : Nat) : Int) = V.int ((7 : Nat) : Int)) = true then _ else _
          rw [eqI]
          refine dec_false (by omega) (iteF (fin s2 p2 (noC ?_)))
          rintro (⟨_, z⟩ | ⟨z, _⟩)
          · rw [ht] at z; cases z
          · omega
      · refine dec_false k6 (iteF ⟨_, rfl, ca, A.c, dx, _, _, rfl, s2 _ _ h1, T.cl_c, T.n_c_kind, cF_kind, rfl, _, rfl, ?_⟩)
        show if decide (V.int ((kindOf b : Nat) : Int) = V.int ((7 : Nat) : Int)) = true then _ else _
        rw [eqI]
        by_cases k7 : kindOf b = 7
        · refine dec_true k7 ⟨_, rfl, rfl, _, rfl, ?_⟩
          show if decide (V.int (Builtin.bitAnd ((t : Int) / 2 ^ ((i : Nat) : Int).toNat) 1) = V.int ((0 : Nat) : Int)) = true then _ else _
          rw [bit_val, show decide (vI (t.testBit i).toNat = V.int ((0 : Nat) : Int)) = _ from eqI _ _]
          cases ht : t.testBit i with
          | true =>
            refine fin s2 p2 (noC ?_)
            rintro (⟨z, _⟩ | ⟨_, z⟩)
            · exact k6 z
            · rw [ht] at z; cases z
          | false =>
            have cnd : numOf b = r ∧ ((kindOf b = 6 ∧ t.testBit i = true) ∨ (kindOf b = 7 ∧ t.testBit i = false)) := ⟨hn, .inr ⟨k7, ht⟩⟩
            refine ⟨_, rfl, p, rfl, ⟨_, SqL.of p2⟩, fun D hD => ?_⟩
            have hDp : D ≠ p := fun z => by rw [z, p2] at hD; cases hD
            refine lc_list (K := K) (a := p) (xs := (l.filter (fol at_ r t)).map vI) (fun j H2 => Same (upd H' U (.tup [.int (i : Nat), .ref ca])) H2 ∧ H2 D = some (.lst ((((l.filter (fol at_ r t)).take j).filter fun u => (inner at_ u).testBit i == t.testBit i).map vI))) ?_ ?_ ?_ ?_
            · exact ⟨same_new hD _, upd_same⟩
            · rintro j H2 _ ⟨n1, _⟩
              exact SqL.of (n1 _ _ p2)
            · rintro j x H2 hx ⟨n1, n2⟩
              obtain ⟨u, hu, rfl⟩ := vI_at hx
              have hum : u ∈ l := (List.mem_filter.mp (List.mem_of_getElem? hu)).1
              refine ⟨rfl, _, rfl, f, A.f, fx, _, _, rfl, n1 _ _ (s2 _ _ f1), T.cl_f, T.n_f_inner, fF_inner, _, rfl, li, _, _, _, rfl, rfl, SqL.of (n1 _ _ (s2 _ _ f5)), inner_at (hP.lt u hum), _, rfl, _, _, rfl, rfl, by omega, _, _, rfl, rfl, _, rfl, rfl, _, rfl, ?_⟩
              show if decide (V.int (Builtin.bitAnd (((inner at_ u : Nat) : Int) / 2 ^ ((i : Nat) : Int).toNat) 1) = V.int (Builtin.bitAnd ((t : Int) / 2 ^ ((i : Nat) : Int).toNat) 1)) = true then _ else _
              rw [bit_val, bit_val, show decide (vI ((inner at_ u).testBit i).toNat = vI (t.testBit i).toNat) = _ from eqI _ _, toNat_eq]
              cases hbit : ((inner at_ u).testBit i == t.testBit i) with
              | false =>
                refine iteF ⟨n1, ?_⟩
                rw [filter_take hu, hbit]
                simpa using n2
              | true =>
                refine iteT ⟨_, rfl, _, n2, ?_, same_upd n1 hD _, ?_⟩
                · exact filt_small (Nat.le_trans (List.length_filter_le _ _) hP.len) _ _
                · rw [upd_same, filter_take hu, hbit, if_pos rfl, List.map_append]
                  rfl
            · rintro H2 ⟨n1, n2⟩
              rw [List.length_map, List.take_length] at n2
              refine ⟨D, _, rfl, .inl (SqL.of n2), rfl, _, rfl, ?_⟩
              have s3 := s2.trans n1
              have p3 := n1 _ _ p2
              have ec : serv1 at_ l r t i b = (l.filter (fol at_ r t)).any fun u => (inner at_ u).testBit i == t.testBit i := if_pos cnd
              rw [List.length_map]
              show if decide (V.int (((((l.filter (fol at_ r t)).filter fun u => (inner at_ u).testBit i == t.testBit i).length : Nat)) : Int) = V.int ((0 : Nat) : Int)) = true then _ else _
              rw [eqI]
              by_cases hz : ((l.filter (fol at_ r t)).filter fun u => (inner at_ u).testBit i == t.testBit i).length = 0
              · have e0 : served at_ l r t = false := by
                  cases e : served at_ l r t with
                  | false => rfl
                  | true =>
                    have z := served_iff.mp e i b hb
                    rw [ec, List.any_eq_true] at z
                    obtain ⟨u, hu, hbit⟩ := z
                    have : u ∈ (l.filter (fol at_ r t)).filter fun u => (inner at_ u).testBit i == t.testBit i := List.mem_filter.mpr ⟨hu, hbit⟩
                    rw [List.length_eq_zero_iff.mp hz] at this
                    cases this
                rw [e0] at q
                exact dec_true hz (q _ s3)
              · refine dec_false hz (fin s3 p3 ?_)
                rw [ec, List.any_eq_true]
                obtain ⟨u, hu⟩ := List.exists_mem_of_length_pos (Nat.pos_of_ne_zero hz)
                exact ⟨u, (List.mem_filter.mp hu).1, (List.mem_filter.mp hu).2⟩
        · refine dec_false k7 (iteF (fin s2 p2 (noC ?_)))
          rintro (⟨z, _⟩ | ⟨z, _⟩)
          · exact k6 z
          · exact k7 z
    · rintro σ H' ⟨v5, v6, v7, v8, m1, m2, m3, rfl⟩
      have e1 : served at_ l r t = true := served_iff.mpr fun k a' ha' => m3 k (by have := (List.getElem?_eq_some_iff.mp ha').1; have := f3.length; omega) a' ha'
      rw [e1] at q
      exact q H' m1
end
end Ax

namespace Ax
open PySem PySem.Spec PyProof.Rows L2
open Oc (C Axiom holds)
theorem GoodAt.roles {at_ : List C} (g : GoodAt at_) : ∀ a ∈ at_, isAt a = true → kindOf a ≠ 2 → numOf a < 2 := fun a ha hi hk => by
  have h := g.ok a ha
  cases a with
  | some r c =>
    have h' : (decide (r < 2) && okC c) = true := h
    rw [Bool.and_eq_true] at h'
    exact of_decide_eq_true h'.1
  | all r c =>
    have h' : (decide (r < 2) && okC c) = true := h
    rw [Bool.and_eq_true] at h'
    exact of_decide_eq_true h'.1
  | name b => exact absurd rfl hk
  | _ => cases hi
theorem filter_lt {l : List Nat} {p : Nat → Bool} {n : Nat} (h : ∀ t ∈ l, t < n) : ∀ t ∈ l.filter p, t < n := fun t ht => h t (List.mem_filter.mp ht).1
section
variable {P : Program} {w : World} {K : PySem.W.Frag} {mg : Str → Option Value} {base : Heap} {A : Ad}
abbrev N_svA : List Str := ["self", "pattern", "some", "role"]
theorem sc_svA : FnScope N_svA ["self", "pattern", "some"] (defScope sSvA) := ⟨rfl, rfl, rfl, by decide +kernel, rfl, by decide +kernel, by decide +kernel⟩
theorem ok_svA (T : Txt K mg A) : DefOk P w K mg base CX0 4 A.svA ["self", "pattern", "some"] (spSvA A K) := by
  refine T.d_svA.ok sc_svA (fun vs H Q E h => ?_) (fun cdv B outer s H vs Q E hr h => ⟨_, pss_one (ps_ret (pe_callB (cr_all rfl) rfl T.z_all (by decide +kernel) (pa_cons (pe_lc (own := [("role", 3)]) (g := gName 3) (tt := tYes) rfl sc_svA.nd (pi_range1 rfl T.z_range (pa_cons (gi T.vMANY_ROLES) pa_nil)) (blkOk_by (N := N_svA) (sc := defScope sSvA) (by decide +kernel))
      (fun _ _ _ _ _ => pg_name (i := 3) sc_svA.nd rfl (Or.inl rfl)) (fun _ _ _ _ _ => pts_nil) (fun _ _ _ _ _ => dmeth (ok_srv T) hr T.cl_f T.m_srv pass0 (pv 0) (pa_cons (pv 1) (pa_cons (pv 2) (pa_cons (pv 3) pa_nil))))) pa_nil))), ?_⟩)
  · obtain ⟨f, a, t, at_, l, rfl, _⟩ := h
    rfl
  · obtain ⟨f, a, t, at_, l, rfl, hF, hG, hP, q⟩ := h
    obtain ⟨fx, la, ls, li, ws, f1, f2, f3, f4, f5⟩ := hF.ex
    refine ⟨2, rfl, by decide, by decide, fun D hD => ?_⟩
    refine lc_range (lo := 0) (n := (2 : Int).toNat) (Pv := fun i H2 => Same H H2 ∧ H2 D = some (.lst (((List.range i).map fun r => served at_ l r t).map V.bl))) ?_ ?_ ?_
    · exact ⟨same_new hD _, upd_same⟩
    · rintro i H2 hi ⟨m1, m2⟩
      have e0 : V.int ((0 : Int) + (i : Int)) = vI i := congrArg V.int (Int.zero_add _)
      rw [e0]
      refine ⟨rfl, _, rfl, f, fx, _, rfl, m1 _ _ f1, fF_srv, _, rfl, _, rfl, _, rfl, f, a, t, i, at_, l, rfl, hF.kp (kp_of m1), hG, hP.same m1, fun H3 s3 => ?_⟩
      refine ⟨_, s3 _ _ m2, ?_, same_upd (m1.trans s3) hD _, ?_⟩
      · rw [List.length_map, List.length_map, List.length_range]
        have : i < 2 := hi
        exact small1000 (by omega)
      · rw [upd_same, List.range_succ, List.map_append, List.map_append]
        rfl
    · rintro H2 ⟨m1, m2⟩
      refine ⟨D, _, rfl, SqL.of m2, ?_⟩
      have e : (((List.range (2 : Int).toNat).map fun r => served at_ l r t).all id) = Oc.borne at_ l t := by
        rw [← borne_served hG.nd hG.roles]
        show (served at_ l 0 t && (served at_ l 1 t && true)) = _
        rw [Bool.and_true]
      rw [e]
      exact q H2 m1
abbrev N_pos : List Str := ["self", "some", "left", "is_more", "kept", "pattern"]
theorem sc_pos : FnScope N_pos ["self", "some"] (defScope sPos) := ⟨rfl, rfl, rfl, by decide +kernel, rfl, by decide +kernel, by decide +kernel⟩
theorem ok_pos (T : Txt K mg A) : DefOk P w K mg base CX0 5 A.pos ["self", "some"] (spPos A K) := by
  refine T.d_pos.ok sc_pos (fun vs H Q E h => ?_) (fun cdv B outer s H vs Q E hr h => ⟨_, pss_cons (ps_set (i := 2) sc_pos.nd rfl (.inr rfl) (pe_callTy call_list_of rfl T.z_list (by decide +kernel) (pa_cons (pv 1) pa_nil)))
    (pss_cons (ps_set (i := 3) sc_pos.nd rfl (.inl rfl) pe_bl)
    (pss_cons (ps_while PassesOwn.never (pt_val (pv 3))
      (pss_cons (ps_setLc (i := 4) (own := [("pattern", 5)]) (g := gName 5) (te := tVar 5) rfl sc_pos.nd rfl rfl (sw_true rfl rfl rfl (by decide +kernel)) (pi_list (pv 2)) (blkOk_by (N := N_pos) (sc := defScope sPos) (by decide +kernel))
        (fun _ _ _ _ _ => pg_name (i := 5) sc_pos.nd rfl (Or.inl rfl)) (fun _ _ _ _ _ => pts_one (pt_val (dmeth (ok_svA T) hr T.cl_f T.m_svA pass0 (pv 0) (pa_cons (pv 5) (pa_cons (pv 2) pa_nil))))) (fun _ _ _ _ _ => pv 5))
      (pss_cons (ps_set (i := 3) sc_pos.nd rfl (.inl rfl) (pe_cmpR op_lt (lenE T.z_len (pv 4)) (lenE T.z_len (pv 2)) (nomark _)))
      (pss_one (ps_set (i := 2) sc_pos.nd rfl (.inr rfl) (pv 4))))))
    (pss_one (ps_ret (pv 2))))), ?_⟩)
  · obtain ⟨f, a, at_, l, rfl, _⟩ := h
    rfl
  · obtain ⟨f, a, at_, l, rfl, hF, hG, hP, q⟩ := h
    obtain ⟨fx, la, ls, li, ws, f1, f2, f3, f4, f5⟩ := hF.ex
    refine ⟨_, rfl, a, _, rfl, .inl hP.sq, fun p hp => ?_⟩
    refine ⟨fun m σ H' => ∃ (lp : Addr) (lf : List Nat) (mo : Bool) (v4 v5 : Option V), m = (if mo then lf.length + 1 else 0) ∧ σ = [some (.ref f), some (.ref a), some (.ref lp), some (.bl mo), v4, v5] ∧ Same H H' ∧ H lp = none ∧ H' lp = some (.lst (lf.map vI)) ∧
      (∀ t ∈ lf, t < 2 ^ at_.length) ∧ lf.length ≤ 1024 ∧ stl at_ lf = stl at_ l ∧ (mo = false → stl at_ lf = lf), ?_, ?_⟩
    · exact ⟨_, p, l, true, none, none, rfl, rfl, same_new hp _, hp, upd_same, hP.lt, hP.len, rfl, fun z => by cases z⟩
    · rintro m σ H' ⟨lp, lf, mo, v4, v5, rfl, rfl, s1, hlp0, hlp, hlt, hlen, hst, hend⟩
      refine ⟨_, rfl, mo, rfl, ?_⟩
      cases mo with
      | false =>
        refine iteF ⟨_, rfl, ?_⟩
        have e := hend rfl
        rw [← hst, e] at q
        exact q lp H' s1 hlp0 hlp
      | true =>
        refine iteT ⟨fun σ' H2 => ∃ (kp : Addr) (v5' : Option V), σ' = [some (.ref f), some (.ref a), some (.ref kp), some (.bl (decide ((lf.filter (Oc.borne at_ lf)).length < lf.length))), some (.ref kp), v5'] ∧ Same H H2 ∧ H kp = none ∧ H2 kp = some (.lst ((lf.filter (Oc.borne at_ lf)).map vI)), ?_, ?_⟩
        · rintro σ' H2 ⟨kp, v5', rfl, k1, k2, k3⟩
          have hle := List.length_filter_le (Oc.borne at_ lf) lf
          refine ⟨if decide ((lf.filter (Oc.borne at_ lf)).length < lf.length) then (lf.filter (Oc.borne at_ lf)).length + 1 else 0, ?_, kp, lf.filter (Oc.borne at_ lf), _, _, v5', rfl, rfl, k1, k2, k3, filter_lt hlt, Nat.le_trans hle hlen, ?_, ?_⟩
          · show _ < lf.length + 1
            by_cases c : (lf.filter (Oc.borne at_ lf)).length < lf.length
            · rw [if_pos (decide_eq_true c)]; omega
            · rw [if_neg (by rw [decide_eq_false c]; simp)]; omega
          · rw [← hst, stl_eq lf]
            by_cases c : (lf.filter (Oc.borne at_ lf)).length = lf.length
            · rw [if_pos c, List.filter_eq_self.mpr (List.length_filter_eq_length_iff.mp c)]
              rw [stl_eq lf, if_pos c]
            · rw [if_neg c]
          · intro hd
            have c : (lf.filter (Oc.borne at_ lf)).length = lf.length := by
              have := of_decide_eq_false hd
              omega
            rw [List.filter_eq_self.mpr (List.length_filter_eq_length_iff.mp c), stl_eq lf, if_pos c]
        · have hPf : PatAt K H' lp at_ lf := ⟨SqL.of hlp, hlt, hlen⟩
          refine ⟨_, rfl, lp, rfl, ⟨_, SqL.of hlp⟩, fun D hD => ?_⟩
          have hDl : D ≠ lp := fun z => by rw [z, hlp] at hD; cases hD
          refine lc_list (K := K) (a := lp) (xs := lf.map vI) (fun j H2 => Same H' H2 ∧ H2 D = some (.lst (((lf.take j).filter (Oc.borne at_ lf)).map vI))) ?_ ?_ ?_ ?_
          · exact ⟨same_new hD _, upd_same⟩
          · rintro j H2 _ ⟨n1, _⟩
            exact SqL.of (n1 _ _ hlp)
          · rintro j x H2 hx ⟨n1, n2⟩
            obtain ⟨u, hu, rfl⟩ := vI_at hx
            have s2 := s1.trans n1
            refine ⟨rfl, _, rfl, f, fx, _, rfl, s2 _ _ f1, fF_svA, _, rfl, _, rfl, f, lp, u, at_, lf, rfl, hF.kp (kp_of s2), hG, hPf.same n1, fun H3 s3 => ⟨_, rfl, ?_⟩⟩
            cases hb : Oc.borne at_ lf u with
            | false =>
              refine iteF ⟨n1.trans s3, ?_⟩
              rw [filter_take hu, hb]
              simpa using s3 _ _ n2
            | true =>
              refine iteT ⟨_, rfl, _, s3 _ _ n2, filt_small hlen _ _, same_upd (n1.trans s3) hD _, ?_⟩
              rw [upd_same, filter_take hu, hb, if_pos rfl, List.map_append]
              rfl
          · rintro H2 ⟨n1, n2⟩
            rw [List.length_map, List.take_length] at n2
            have hD0 : H D = none := s1.free hD
            refine ⟨_, rfl, D, _, rfl, .inl (SqL.of n2), _, rfl, lp, _, rfl, .inl (SqL.of (n1 _ _ hlp)), _, _, rfl, rfl, _, rfl, D, v5, ?_, s1.trans n1, hD0, n2⟩
            rw [List.length_map, List.length_map]
            have e : decide ((((lf.filter (Oc.borne at_ lf)).length : Nat) : Int) < ((lf.length : Nat) : Int)) = decide ((lf.filter (Oc.borne at_ lf)).length < lf.length) := by
              by_cases c : (lf.filter (Oc.borne at_ lf)).length < lf.length
              · rw [decide_eq_true c, decide_eq_true (by omega)]
              · rw [decide_eq_false c, decide_eq_false (by omega)]
            rw [← e]
            rfl
abbrev N_und : List Str := ["self", "one", "other", "some", "left", "pattern"]
theorem sc_und : FnScope N_und ["self", "one", "other", "some"] (defScope sUnd) := ⟨rfl, rfl, rfl, by decide +kernel, rfl, by decide +kernel, by decide +kernel⟩
theorem stl_sub {at_ : List C} {l : List Nat} : ∀ u ∈ stl at_ l, u ∈ l := settle_sub _ _
theorem stl_len {at_ : List C} : ∀ (n : Nat) (l : List Nat), (Oc.settle at_ n l).length ≤ l.length
  | 0, _ => Nat.le_refl _
  | n + 1, l => by
    show (if (l.filter (Oc.borne at_ l)).length = l.length then l else Oc.settle at_ n (l.filter (Oc.borne at_ l))).length ≤ l.length
    split
    · exact Nat.le_refl _
    · exact Nat.le_trans (stl_len n _) (List.length_filter_le _ _)
theorem ok_und (T : Txt K mg A) : DefOk P w K mg base CX0 42 A.und ["self", "one", "other", "some"] (spUnd A K) := by
  refine T.d_und.ok sc_und (fun vs H Q E h => ?_) (fun cdv B outer s H vs Q E hr h => ?_)
  · obtain ⟨f, a, vc, vd, c, d, at_, l, rfl, _⟩ := h
    rfl
  have hr5 : Room 5 _ := hr.mono (by omega)
  refine ⟨_, pss_cons (ps_set (i := 4) sc_und.nd rfl (.inl rfl) (dmeth (ok_pos T) hr5 T.cl_f T.m_pos pass0 (pv 0) (pa_cons (pv 3) pa_nil)))
    (pss_one (ps_ret (pe_cmpR op_eq (lenE T.z_len (pe_lc (own := [("pattern", 5)]) (g := gName 5) (te := tVar 5) rfl sc_und.nd (pi_list (pv 4)) (blkOk_by (N := N_und) (sc := defScope sUnd) (by decide +kernel))
      (fun _ _ _ _ _ => pg_name (i := 5) sc_und.nd rfl (Or.inl rfl)) (fun _ _ _ _ _ => pts_one (PW.pt (pw_and (pt_val (dmeth (ok_so T) hr T.cl_f T.m_so pass0 (pv 0) (pa_cons (pv 1) (pa_cons (pv 5) pa_nil)))) (pw_and1 (pt_not (pt_val (dmeth (ok_so T) hr T.cl_f T.m_so pass0 (pv 0) (pa_cons (pv 2) (pa_cons (pv 5) pa_nil)))))))))
      (fun _ _ _ _ _ => pv 5))) pe_int (nomark _)))), ?_⟩
  obtain ⟨f, a, vc, vd, c, d, at_, l, rfl, hF, hG, hP, hc, hd, cc, cd, lc, ld, q⟩ := h
  obtain ⟨fx, la, ls, li, ws, f1, f2, f3, f4, f5⟩ := hF.ex
  refine ⟨_, rfl, f, fx, _, rfl, f1, fF_pos, _, rfl, f, a, at_, l, rfl, hF, hG, hP, fun p H1 s1 hp0 hp => ?_⟩
  refine ⟨_, rfl, p, rfl, ⟨_, SqL.of hp⟩, fun D hD => ?_⟩
  have hDp : D ≠ p := fun z => by rw [z, hp] at hD; cases hD
  have hsl : (stl at_ l).length ≤ 1024 := Nat.le_trans (stl_len _ _) hP.len
  refine lc_list (K := K) (a := p) (xs := (stl at_ l).map vI) (fun j H2 => Same H1 H2 ∧ H2 D = some (.lst ((((stl at_ l).take j).filter fun t => holds at_ t c && !holds at_ t d).map vI))) ?_ ?_ ?_ ?_
  · exact ⟨same_new hD _, upd_same⟩
  · rintro j H2 _ ⟨n1, _⟩
    exact SqL.of (n1 _ _ hp)
  · rintro j x H2 hx ⟨n1, n2⟩
    obtain ⟨u, hu, rfl⟩ := vI_at hx
    have s2 := s1.trans n1
    refine ⟨rfl, _, rfl, f, fx, _, rfl, s2 _ _ f1, fF_so, _, rfl, _, rfl, f, vc, u, at_, c, rfl, (hF.kp (kp_of s2)).p, CAt.kp (kp_of s2) _ _ hc, cc, lc, fun H3 s3 => ⟨_, rfl, ?_⟩⟩
    have n2' := s3 _ _ n2
    cases h1 : holds at_ u c with
    | false =>
      refine iteF (iteF ⟨n1.trans s3, ?_⟩)
      rw [filter_take hu, h1]
      simpa using n2'
    | true =>
      have s4 := s2.trans s3
      refine iteT ⟨_, rfl, f, fx, _, rfl, s4 _ _ f1, fF_so, _, rfl, _, rfl, f, vd, u, at_, d, rfl, (hF.kp (kp_of s4)).p, CAt.kp (kp_of s4) _ _ hd, cd, ld, fun H4 s5 => ⟨_, rfl, ?_⟩⟩
      have n3 := s5 _ _ n2'
      have n4 := (n1.trans s3).trans s5
      cases h2 : holds at_ u d with
      | true =>
        refine ⟨n4, ?_⟩
        rw [filter_take hu, h1, h2]
        simpa using n3
      | false =>
        refine ⟨_, rfl, _, n3, filt_small hsl _ _, same_upd n4 hD _, ?_⟩
        rw [upd_same, filter_take hu, h1, h2]
        simp
  · rintro H2 ⟨n1, n2⟩
    rw [List.length_map, List.take_length] at n2
    refine ⟨D, _, rfl, .inl (SqL.of n2), rfl, ?_⟩
    have z := q H2 (s1.trans n1)
    rw [List.length_map]
    have e : decide (V.int (((((stl at_ l).filter fun t => holds at_ t c && !holds at_ t d).length : Nat)) : Int) = V.int ((0 : Nat) : Int)) = !(stl at_ l).any fun t => holds at_ t c && !holds at_ t d := by
      rw [eqI]
      cases ha : (stl at_ l).any fun t => holds at_ t c && !holds at_ t d with
      | false =>
        refine decide_eq_true ?_
        rw [List.any_eq_false] at ha
        exact List.length_eq_zero_iff.mpr (List.filter_eq_nil_iff.mpr ha)
      | true =>
        refine decide_eq_false ?_
        obtain ⟨t, ht, hh⟩ := List.any_eq_true.mp ha
        have : t ∈ (stl at_ l).filter fun t => holds at_ t c && !holds at_ t d := List.mem_filter.mpr ⟨ht, hh⟩
        intro z0
        rw [List.length_eq_zero_iff.mp z0] at this
        cases this
    rw [← e] at z
    exact z
end
end Ax

namespace Ax
open PySem PySem.Spec PyProof.Rows L2
open Oc (C Axiom holds)
local macro_rules | `(tactic| walk_at "ax lk") => `(tactic| (first | with_reducible exact lk0 | with_reducible exact lkN | (refine (lk1 (by decide +kernel)).trans ?_; walk_at "ax lk")))
local macro_rules | `(tactic| walk_at "ax put") => `(tactic| (first | with_reducible exact putN | with_reducible exact put0 | (refine put1' (by decide +kernel) ?_; walk_at "ax put")))
abbrev aF (p f s : V) : List (Str × V) := [("pair", p), ("frame", f), ("signature", s)]
abbrev aF1 (p : V) : List (Str × V) := [("pair", p)]
abbrev aF2 (p f : V) : List (Str × V) := [("pair", p), ("frame", f)]
theorem aF_1 {p : V} : putF "pair" p [] = aF1 p := by walk_at "ax put"
theorem aF_2 {p f : V} : putF "frame" f (aF1 p) = aF2 p f := by walk_at "ax put"
theorem aF_3 {p f s : V} : putF "signature" s (aF2 p f) = aF p f s := by walk_at "ax put"
theorem aF_pair {p f s : V} : (aF p f s).lookup ("pair" : Str) = some p := by walk_at "ax lk"
theorem aF_frame {p f s : V} : (aF p f s).lookup ("frame" : Str) = some f := by walk_at "ax lk"
theorem aF_sig {p f s : V} : (aF p f s).lookup ("signature" : Str) = some s := by walk_at "ax lk"
theorem aF_loc {p f s : V} : (aF p f s).lookup ("is_local" : Str) = none := by walk_at "ax lk"
abbrev mF (c n r : V) : List (Str × V) := [("chosen", c), ("names", n), ("roles", r)]
abbrev mF1 (c : V) : List (Str × V) := [("chosen", c)]
abbrev mF2 (c n : V) : List (Str × V) := [("chosen", c), ("names", n)]
theorem mF_1 {c : V} : putF "chosen" c [] = mF1 c := by walk_at "ax put"
theorem mF_2 {c n : V} : putF "names" n (mF1 c) = mF2 c n := by walk_at "ax put"
theorem mF_3 {c n r : V} : putF "roles" r (mF2 c n) = mF c n r := by walk_at "ax put"
theorem mF_chosen {c n r : V} : (mF c n r).lookup ("chosen" : Str) = some c := by walk_at "ax lk"
theorem mF_names {c n r : V} : (mF c n r).lookup ("names" : Str) = some n := by walk_at "ax lk"
theorem mF_roles {c n r : V} : (mF c n r).lookup ("roles" : Str) = some r := by walk_at "ax lk"
/-! ### axioms -/
structure GoodAx (ax : Axiom) : Prop where
  ok1 : okC ax.1 = true
  ok2 : okC ax.2 = true
  len : (enc ax.1).length + (enc ax.2).length ≤ 30
  few : (atomsP [ax.1, ax.2]).length ≤ 4
theorem enc_subs : ∀ (c : C), ∀ x ∈ subs c, (enc x).length ≤ (enc c).length
  | .top, x, hx => by rw [List.mem_singleton.mp hx]; exact Nat.le_refl _
  | .bot, x, hx => by rw [List.mem_singleton.mp hx]; exact Nat.le_refl _
  | .name a, x, hx => by rw [List.mem_singleton.mp hx]; exact Nat.le_refl _
  | .and c d, x, hx => by
    have e : (enc (.and c d)).length = (enc c).length + (enc d).length + 1 := by simp [enc]
    rcases List.mem_cons.mp hx with z | hx
    · rw [z]; exact Nat.le_refl _
    · rcases List.mem_append.mp hx with q | q
      · have := enc_subs d x q; omega
      · have := enc_subs c x q; omega
  | .or c d, x, hx => by
    have e : (enc (.or c d)).length = (enc c).length + (enc d).length + 1 := by simp [enc]
    rcases List.mem_cons.mp hx with z | hx
    · rw [z]; exact Nat.le_refl _
    · rcases List.mem_append.mp hx with q | q
      · have := enc_subs d x q; omega
      · have := enc_subs c x q; omega
  | .not c, x, hx => by
    have e : (enc (.not c)).length = (enc c).length + 1 := by simp [enc]
    rcases List.mem_cons.mp hx with z | hx
    · rw [z]; exact Nat.le_refl _
    · have := enc_subs c x hx; omega
  | .some r c, x, hx => by
    have e : (enc (.some r c)).length = (enc c).length + 2 := by simp [enc]
    rcases List.mem_cons.mp hx with z | hx
    · rw [z]; exact Nat.le_refl _
    · have := enc_subs c x hx; omega
  | .all r c, x, hx => by
    have e : (enc (.all r c)).length = (enc c).length + 2 := by simp [enc]
    rcases List.mem_cons.mp hx with z | hx
    · rw [z]; exact Nat.le_refl _
    · have := enc_subs c x hx; omega
theorem goodAt_of {cs : List C} (h : ∀ c ∈ cs, okC c = true) (hs : ∀ c ∈ cs, (enc c).length ≤ 40) (hz : szs cs ≤ 1000) : GoodAt (atomsP cs) := by
  have key : ∀ a ∈ atomsP cs, ∃ c ∈ cs, a ∈ subs c := fun a ha => by
    obtain ⟨c, hc, q⟩ := mem_atomsP.mp ha
    exact ⟨c, hc, (List.mem_filter.mp ((mem_subs_atoms c a).mp q)).1⟩
  refine ⟨nodup_atomsP cs, closed_atomsP cs, isAt_atomsP, Nat.le_trans (atomsP_len cs) hz, fun a ha => ?_, fun a ha => ?_⟩
  · obtain ⟨c, hc, q⟩ := key a ha
    exact okC_subs c (h c hc) a q
  · obtain ⟨c, hc, q⟩ := key a ha
    exact Nat.le_trans (enc_subs c a q) (hs c hc)
theorem GoodAx.oks {ax : Axiom} (g : GoodAx ax) : ∀ c ∈ [ax.1, ax.2], okC c = true := fun c hc => by
  rcases List.mem_cons.mp hc with e | hc
  · rw [e]; exact g.ok1
  · rw [List.mem_singleton.mp hc]; exact g.ok2
theorem GoodAx.szs {ax : Axiom} (g : GoodAx ax) : szs [ax.1, ax.2] ≤ 30 := by
  have := g.len
  rw [szs_cons, szs_cons, szs_nil]
  omega
theorem GoodAx.at_ {ax : Axiom} (g : GoodAx ax) : GoodAt (atomsP [ax.1, ax.2]) := by
  refine goodAt_of g.oks (fun c hc => ?_) (by have := g.szs; omega)
  have := g.len
  rcases List.mem_cons.mp hc with e | hc
  · rw [e]; omega
  · rw [List.mem_singleton.mp hc]; omega
theorem CAt.off {A : Ad} {H : Hp} {p Cp dx : Addr} {fs : List (Str × V)} {o : HO} (hp : H p = some (.ins Cp dx fs)) (hl : fs.length ≠ 4) : ∀ (c : C) (v : V), CAt A.c H c v → CAt A.c (upd H p o) c v := by
  have nd' : ∀ {v : V} {k n : Nat} {ps : List V} {es : List Nat}, Node A.c H v k n ps es → Node A.c (upd H p o) v k n ps es := fun {v k n ps es} h => by
    obtain ⟨a, cx, pl', pt', e, h1, h2, h3⟩ := h.ex
    have m1 : a ≠ p := fun z => by
      rw [z, hp] at h1
      injection h1 with h1
      injection h1 with _ _ h1
      exact hl (by rw [h1]; rfl)
    have m2 : pl' ≠ p := fun z => by rw [z, hp] at h2; cases h2
    have m3 : pt' ≠ p := fun z => by rw [z, hp] at h3; cases h3
    exact ⟨a, cx, pl', pt', e, by rw [upd_ne m1]; exact h1, by rw [upd_ne m2]; exact h2, by rw [upd_ne m3]; exact h3⟩
  intro c
  induction c with
  | top => exact fun v h => nd' h
  | bot => exact fun v h => nd' h
  | name a => exact fun v h => nd' h
  | and c d i1 i2 => exact fun v ⟨a, b, n, h1, h2⟩ => ⟨a, b, nd' n, i1 a h1, i2 b h2⟩
  | or c d i1 i2 => exact fun v ⟨a, b, n, h1, h2⟩ => ⟨a, b, nd' n, i1 a h1, i2 b h2⟩
  | not c i1 => exact fun v ⟨a, n, h1⟩ => ⟨a, nd' n, i1 a h1⟩
  | some r c i1 => exact fun v ⟨a, n, h1⟩ => ⟨a, nd' n, i1 a h1⟩
  | all r c i1 => exact fun v ⟨a, n, h1⟩ => ⟨a, nd' n, i1 a h1⟩
theorem FrAt.off {A : Ad} {H : Hp} {p Cp dx x : Addr} {fs : List (Str × V)} {o : HO} {at_ : List C} (hp : H p = some (.ins Cp dx fs)) (hl : fs.length ≠ 4) (hx : x ≠ p) (hF : FrAt A H x at_) : FrAt A (upd H p o) x at_ := by
  obtain ⟨fx, la, ls, li, us, f1, f2, f3, f4, f5⟩ := hF.ex
  have n1 : la ≠ p := fun z => by rw [z, hp] at f2; cases f2
  have n2 : ls ≠ p := fun z => by rw [z, hp] at f4; cases f4
  have n3 : li ≠ p := fun z => by rw [z, hp] at f5; cases f5
  exact ⟨fx, la, ls, li, us, by rw [upd_ne hx]; exact f1, by rw [upd_ne n1]; exact f2, Paired.mapP f3 (CAt.off hp hl), by rw [upd_ne n2]; exact f4, by rw [upd_ne n3]; exact f5⟩
structure AxAt (A : Ad) (H : Hp) (ax : Axiom) (v : V) : Prop where
  ex : ∃ a dx pl fr st, v = .ref a ∧ H a = some (.ins A.a dx (aF (.ref pl) (.ref fr) (.ref st))) ∧ PrAt A H ax (.ref pl) ∧ FrAt A H fr (atomsP [ax.1, ax.2]) ∧ H st = some (.tup [vI (bitsP [2] [ax.1, ax.2]), vI (bitsP [6, 7] [ax.1, ax.2])])
theorem AxAt.kp {A : Ad} {H H' : Hp} {ax : Axiom} {v : V} (s : Kp H H') (h : AxAt A H ax v) : AxAt A H' ax v := by
  obtain ⟨a, dx, pl, fr, st, e, h1, h2, h3, h4⟩ := h.ex
  exact ⟨a, dx, pl, fr, st, e, s _ _ h1 (fun _ z => by cases z), h2.kp s, h3.kp s, s _ _ h4 (fun _ z => by cases z)⟩
structure ModAt (A : Ad) (H : Hp) (p : Addr) (x : List Nat × Oc06.Words) : Prop where
  ex : ∃ dx lc, H p = some (.ins A.m dx (mF (.ref lc) (vI x.2.names) (vI x.2.roles))) ∧ H lc = some (.lst (x.1.map vI))
def spAI (A : Ad) : Sp := fun vs H Q _ => ∃ (p dx pl : Addr) (vc vd : V) (ax : Axiom) (G : Hp), vs = [.ref p, .ref pl] ∧ H p = some (.ins A.a dx []) ∧ Same G H ∧ G p = none ∧ G pl = some (.lst [vc, vd]) ∧ CAt A.c G ax.1 vc ∧ CAt A.c G ax.2 vd ∧ GoodAx ax ∧
  ∀ H', AxAt A H' ax (.ref p) → (∀ b o, H b = some o → b ≠ p → H' b = some o) → Q .non H'
def spLoc (A : Ad) : Sp := fun vs H Q _ => ∃ (v : V) (wd : Oc06.Words) (ax : Axiom), vs = [v, vI wd.names, vI wd.roles] ∧ AxAt A H ax v ∧ GoodAx ax ∧ ∀ H', Same H H' → Q (.bl (Oc06.quiet wd ax)) H'
def spMI (A : Ad) : Sp := fun vs H Q _ => ∃ (p dx : Addr) (c n r : V), vs = [.ref p, c, n, r] ∧ H p = some (.ins A.m dx []) ∧ Q .non (upd H p (.ins A.m dx (mF c n r)))
def spHas (A : Ad) (K : PySem.W.Frag) : Sp := fun vs H Q _ => ∃ (a : Addr) (cs : List C) (us : List V), vs = [.ref a] ∧ SqL K H a us ∧ CsAt A.c H cs us ∧ szs cs ≤ 1000 ∧ ∀ H', Same H H' → Q (.bl (decide ((atomsP cs).length ≤ 4))) H'
def spAskS (A : Ad) : Sp := fun vs H Q E => ∃ (n r : Nat), vs = [vI n, vI r] ∧ (Oc06.isWords n r = true → Q .non H) ∧ (Oc06.isWords n r = false → Raised A (-1) H E)
def spMod (A : Ad) (K : PySem.W.Frag) : Sp := fun vs H Q _ => ∃ (la : Addr) (us : List V) (axs : List Axiom) (wd : Oc06.Words), vs = [.ref la, vI wd.names, vI wd.roles] ∧ SqL K H la us ∧ Paired (AxAt A H) axs us ∧ (∀ ax ∈ axs, GoodAx ax) ∧ axs.length ≤ 8 ∧
  ∀ p H', Same H H' → H p = none → ModAt A H' p (Oc06.part axs wd) → Q (.ref p) H'
section
variable {P : Program} {w : World} {K : PySem.W.Frag} {mg : Str → Option Value} {base : Heap} {A : Ad}
theorem sc_aI : FnScope ["self", "concepts"] ["self", "concepts"] (defScope sAI) := ⟨rfl, rfl, rfl, by decide +kernel, rfl, by decide +kernel, by decide +kernel⟩
theorem ok_aI (T : Txt K mg A) : DefOk P w K mg base CX0 45 A.aI ["self", "concepts"] (spAI A) := by
  refine T.d_aI.ok sc_aI (fun vs H Q E h => ?_) (fun cdv B outer s H vs Q E hr h => ?_)
  · obtain ⟨p, dx, pl, vc, vd, ax, G, rfl, _⟩ := h
    rfl
  have hr3 : Room 3 _ := hr.mono (by omega)
  refine ⟨_, pss_cons (ps_fld (pv 0) (pv 1) rfl) (pss_cons (ps_fld (pv 0) (dmake T.mk_f (ok_fI T) hr T.g_f pass0 (pa_cons (pv 1) pa_nil)) rfl) (pss_one (ps_fld (pv 0) (dcall (ok_sig T) hr3 T.g_sig pass0 (pa_cons (pv 1) pa_nil)) rfl))), ?_⟩
  obtain ⟨p, dx, pl, vc, vd, ax, G, rfl, hp, sG, hGp, hpl, hc, hd, hg, q⟩ := h
  have hC : CsAt A.c G [ax.1, ax.2] [vc, vd] := .cons hc (.cons hd .nil)
  have neG : ∀ b o, G b = some o → b ≠ p := fun b o e z => by rw [z, hGp] at e; cases e
  refine ⟨_, rfl, _, rfl, p, A.a, dx, _, rfl, hp, T.cl_a, T.n_a_pair, ins_len (by show 0 ≤ 10; decide), ?_⟩
  rw [aF_1]
  have sG1 : Same G (upd H p (.ins A.a dx (aF1 (.ref pl)))) := fun b o e => by rw [upd_ne (neG b o e)]; exact sG _ _ e
  -- Frame(concepts)
  refine ⟨_, rfl, ?_⟩
  intro x xd nx nd ne
  have sG2 : Same G (upd (upd (upd H p (.ins A.a dx (aF1 (.ref pl)))) xd (.own x)) x (.ins A.f xd [])) := by
    have h1 := same_upd sG1 (sG1.free nd) (.own x)
    exact same_upd h1 (sG1.free nx) _
  refine ⟨x, xd, pl, [ax.1, ax.2], [vc, vd], G, rfl, upd_same, SqL.of (sG2 _ _ hpl), sG2, sG1.free nx, hC, by have := hg.szs; omega, hg.at_, by have := hg.few; omega, fun H2 hF k2 => ⟨rfl, ?_⟩⟩
  have hpx : p ≠ x := ne_of_none (H := upd H p (.ins A.a dx (aF1 (.ref pl)))) upd_same nx
  have hpd : p ≠ xd := ne_of_none (H := upd H p (.ins A.a dx (aF1 (.ref pl)))) upd_same nd
  have hp2 : H2 p = some (.ins A.a dx (aF1 (.ref pl))) := k2 _ _ (by rw [upd_ne hpx, upd_ne hpd, upd_same]) hpx
  -- what stood before stands, but p
  have k3 : ∀ b o, H b = some o → b ≠ p → H2 b = some o := fun b o e hb => by
    have e1 : upd H p (.ins A.a dx (aF1 (.ref pl))) b = some o := by rw [upd_ne hb]; exact e
    have hbx : b ≠ x := ne_of_none e1 nx
    have hbd : b ≠ xd := ne_of_none e1 nd
    exact k2 b o (by rw [upd_ne hbx, upd_ne hbd]; exact e1) hbx
  have sG3 : Same G H2 := fun b o e => k3 b o (sG _ _ e) (neG b o e)
  refine ⟨_, rfl, p, A.a, dx, _, rfl, hp2, T.cl_a, T.n_a_frame, ins_len (by show 1 ≤ 10; decide), ?_⟩
  rw [aF_2]
  have sG4 : Same G (upd H2 p (.ins A.a dx (aF2 (.ref pl) (.ref x)))) := fun b o e => by rw [upd_ne (neG b o e)]; exact sG3 _ _ e
  -- signature_of(concepts)
  refine ⟨_, rfl, pl, [ax.1, ax.2], [vc, vd], rfl, SqL.of (sG4 _ _ hpl), hC.kp (kp_of sG4), by have := hg.szs; omega, hg.oks, fun t H5 s5 ht0 ht => ?_⟩
  have hp5 := s5 _ _ (upd_same (H := H2) (a := p) (o := .ins A.a dx (aF2 (.ref pl) (.ref x))))
  have htp : t ≠ p := fun z => by rw [z, hp5] at ht; cases ht
  refine ⟨_, rfl, p, A.a, dx, _, rfl, hp5, T.cl_a, T.n_a_signature, ins_len (by show 2 ≤ 10; decide), ?_⟩
  rw [aF_3]
  have k6 : ∀ b o, H b = some o → b ≠ p → upd H5 p (.ins A.a dx (aF (.ref pl) (.ref x) (.ref t))) b = some o := fun b o e hb => by
    rw [upd_ne hb]
    exact s5 _ _ (by rw [upd_ne hb]; exact k3 b o e hb)
  have sG6 : Same G (upd H5 p (.ins A.a dx (aF (.ref pl) (.ref x) (.ref t)))) := fun b o e => k6 b o (sG _ _ e) (neG b o e)
  refine q _ ⟨p, dx, pl, x, t, rfl, upd_same, ⟨pl, vc, vd, rfl, sG6 _ _ hpl, CAt.kp (kp_of sG6) _ _ hc, CAt.kp (kp_of sG6) _ _ hd⟩, ?_, by rw [upd_ne htp]; exact ht⟩ k6
  exact FrAt.off hp5 (by show ¬ 2 = 4; decide) (Ne.symm hpx) ((FrAt.off hp2 (by show ¬ 1 = 4; decide) (Ne.symm hpx) hF).kp (kp_of s5))
theorem sc_mI : FnScope ["self", "chosen", "names", "roles"] ["self", "chosen", "names", "roles"] (defScope sMI) := ⟨rfl, rfl, rfl, by decide +kernel, rfl, by decide +kernel, by decide +kernel⟩
theorem ok_mI (T : Txt K mg A) : DefOk P w K mg base CX0 1 A.mI ["self", "chosen", "names", "roles"] (spMI A) := by
  refine T.d_mI.ok sc_mI (fun vs H Q E h => ?_) (fun cdv B outer s H vs Q E hr h => ⟨_, pss_cons (ps_fld (pv 0) (pv 1) rfl) (pss_cons (ps_fld (pv 0) (pv 2) rfl) (pss_one (ps_fld (pv 0) (pv 3) rfl))), ?_⟩)
  · obtain ⟨p, dx, c, n, r, rfl, _⟩ := h
    rfl
  · obtain ⟨p, dx, c, n, r, rfl, h1, q⟩ := h
    refine ⟨_, rfl, _, rfl, p, A.m, dx, _, rfl, h1, T.cl_m, T.n_m_chosen, ins_len (by show 0 ≤ 10; decide), ?_⟩
    rw [mF_1]
    refine ⟨_, rfl, _, rfl, p, A.m, dx, _, rfl, upd_same, T.cl_m, T.n_m_names, ins_len (by show 1 ≤ 10; decide), ?_⟩
    rw [mF_2, upd_upd]
    refine ⟨_, rfl, _, rfl, p, A.m, dx, _, rfl, upd_same, T.cl_m, T.n_m_roles, ins_len (by show 2 ≤ 10; decide), ?_⟩
    rw [mF_3, upd_upd]
    exact q
theorem sc_has : FnScope ["concepts"] ["concepts"] (defScope sHas) := ⟨rfl, rfl, rfl, by decide +kernel, rfl, by decide +kernel, by decide +kernel⟩
theorem ok_has (T : Txt K mg A) : DefOk P w K mg base CX0 3 A.has ["concepts"] (spHas A K) := by
  refine T.d_has.ok sc_has (fun vs H Q E h => ?_) (fun cdv B outer s H vs Q E hr h => ⟨_, pss_one (ps_ret (pe_cmpR op_le (lenE T.z_len (dcall (ok_atoms T) hr T.g_atoms pass0 (pa_cons (pv 0) pa_nil))) (gi T.vMOST_ATOMS) (nomark _))), ?_⟩)
  · obtain ⟨a, cs, us, rfl, _⟩ := h
    rfl
  · obtain ⟨a, cs, us, rfl, hS, hC, hz, q⟩ := h
    refine ⟨_, rfl, a, cs, us, H, rfl, hS, Same.refl H, hC, hz, fun l H1 ws s1 hl0 hl hW => ?_⟩
    refine ⟨l, ws, rfl, .inl (SqL.of hl), _, _, rfl, rfl, ?_⟩
    have e : decide ((ws.length : Int) ≤ 4) = decide ((atomsP cs).length ≤ 4) := by
      rw [← hW.length]
      by_cases c : (atomsP cs).length ≤ 4
      · rw [decide_eq_true c, decide_eq_true (by omega)]
      · rw [decide_eq_false c, decide_eq_false (by omega)]
    have z := q H1 s1
    rw [← e] at z
    exact z
theorem sc_askS : FnScope ["names", "roles"] ["names", "roles"] (defScope sAskS) := ⟨rfl, rfl, rfl, by decide +kernel, rfl, by decide +kernel, by decide +kernel⟩
theorem ltI (a b : Nat) : decide ((a : Int) < (b : Int)) = decide (a < b) := by
  by_cases c : a < b
  · rw [decide_eq_true c, decide_eq_true (by omega)]
  · rw [decide_eq_false c, decide_eq_false (by omega)]
theorem ok_askS (T : Txt K mg A) : DefOk P w K mg base (L2.CX P w) 4 A.askS ["names", "roles"] (spAskS A) := by
  refine T.d_askS.okX sc_askS (fun vs H Q E h => ?_) (fun cdv B outer s H vs Q E hr h => ⟨_, pss_one (ps_expr (dcall (ok_ask T) hr T.g_ask passD (pa_cons (pe_and (pe_cmpR op_lt (pv 0) (pe_op op_shl pe_int (gi T.vMANY_NAMES)) (nomark _)) (pe_one (pe_cmpR op_lt (pv 1) (pe_op op_shl pe_int (gi T.vMANY_ROLES)) (nomark _)))) (pa_cons (gi T.vBAD) pa_nil)))), ?_⟩)
  · obtain ⟨n, r, rfl, _⟩ := h
    rfl
  · obtain ⟨n, r, rfl, q1, q2⟩ := h
    have ew : Oc06.isWords n r = (decide (n < 16) && decide (r < 4)) := rfl
    rw [ew] at q1 q2
    refine ⟨_, rfl, _, _, rfl, rfl, ⟨by decide, by decide, by decide⟩, _, _, rfl, rfl, _, rfl, ?_⟩
    show if decide ((n : Int) < ((16 : Nat) : Int)) = true then _ else _
    rw [ltI]
    by_cases c : n < 16
    · rw [decide_eq_true c] at q1 q2
      refine dec_true c ⟨_, rfl, _, _, rfl, rfl, ⟨by decide, by decide, by decide⟩, _, _, rfl, rfl, ?_⟩
      refine ⟨_, -1, rfl, fun hb => q1 ?_, fun hb => q2 ?_⟩
      · have hb' : decide ((r : Int) < ((4 : Nat) : Int)) = true := hb
        rw [ltI] at hb'
        rw [hb']; rfl
      · have hb' : decide ((r : Int) < ((4 : Nat) : Int)) = false := hb
        rw [ltI] at hb'
        rw [hb']; rfl
    · rw [decide_eq_false c] at q1 q2
      exact dec_false c ⟨false, -1, rfl, fun hb => (by cases hb), fun _ => q2 rfl⟩
theorem sc_loc : FnScope ["self", "names", "roles"] ["self", "names", "roles"] (defScope sLoc) := ⟨rfl, rfl, rfl, by decide +kernel, rfl, by decide +kernel, by decide +kernel⟩
theorem ok_loc (T : Txt K mg A) : DefOk P w K mg base CX0 43 A.loc ["self", "names", "roles"] (spLoc A) := by
  refine T.d_loc.ok sc_loc (fun vs H Q E h => ?_) (fun cdv B outer s H vs Q E hr h => ?_)
  · obtain ⟨v, wd, ax, rfl, _⟩ := h
    rfl
  have hr1 : Room 1 _ := hr.mono (by omega)
  refine ⟨_, pss_one (ps_ret (dmeth (ok_und (K := K) T) hr T.cl_f T.m_und pass0 (pe_fld (pv 0) rfl) (pa_cons (pe_ix ix_list (pe_fld (pv 0) rfl) pe_int (fun _ _ => rfl)) (pa_cons (pe_ix ix_list (pe_fld (pv 0) rfl) pe_int (fun _ _ => rfl))
    (pa_cons (dmeth (ok_win T) hr1 T.cl_f T.m_win pass0 (pe_fld (pv 0) rfl) (pa_cons (pv 1) (pa_cons (pv 2) pa_nil))) pa_nil))))), ?_⟩
  obtain ⟨v, wd, ax, rfl, hA, hg, q⟩ := h
  obtain ⟨a, dx, pl, fr, st, rfl, h1, h2, h3, h4⟩ := hA.ex
  obtain ⟨pl', vc, vd, e, p1, p2, p3⟩ := h2.ex
  cases e
  obtain ⟨fx, la, ls, li, us, f1, f2, f3, f4, f5⟩ := h3.ex
  have hlen := hg.len
  refine ⟨_, rfl, a, A.a, dx, _, _, rfl, h1, T.cl_a, T.n_a_frame, aF_frame, fr, fx, _, rfl, f1, fF_und, ?_⟩
  refine ⟨_, rfl, a, A.a, dx, _, _, rfl, h1, T.cl_a, T.n_a_pair, aF_pair, pl, _, _, _, rfl, rfl, SqL.of p1, atI_nat (xs := [vc, vd]) (j := 0) rfl, ?_⟩
  refine ⟨_, rfl, a, A.a, dx, _, _, rfl, h1, T.cl_a, T.n_a_pair, aF_pair, pl, _, _, _, rfl, rfl, SqL.of p1, atI_nat (xs := [vc, vd]) (j := 1) rfl, ?_⟩
  refine ⟨_, rfl, a, A.a, dx, _, _, rfl, h1, T.cl_a, T.n_a_frame, aF_frame, fr, fx, _, rfl, f1, fF_win, _, rfl, _, rfl, fr, atomsP [ax.1, ax.2], wd, rfl, h3, hg.at_, by have := hg.few; omega, fun l H1 s1 hl0 hl => ?_⟩
  have hP : PatAt K H1 l (atomsP [ax.1, ax.2]) (tys (atomsP [ax.1, ax.2]) (inSig wd (atomsP [ax.1, ax.2]))) := ⟨SqL.of hl, filter_lt fun t ht => List.mem_range.mp ht, by
    have z1 := List.length_filter_le (inSig wd (atomsP [ax.1, ax.2])) (List.range (2 ^ (atomsP [ax.1, ax.2]).length))
    rw [List.length_range] at z1
    have z2 := pow_small (show (atomsP [ax.1, ax.2]).length ≤ 10 by have := hg.few; omega)
    exact Nat.le_trans z1 z2⟩
  have c1 : Cov (atomsP [ax.1, ax.2]) ax.1 := cov_atomsP (by simp)
  have c2 : Cov (atomsP [ax.1, ax.2]) ax.2 := cov_atomsP (by simp)
  refine ⟨fr, l, vc, vd, ax.1, ax.2, atomsP [ax.1, ax.2], _, rfl, h3.kp (kp_of s1), hg.at_, hP, CAt.kp (kp_of s1) _ _ p2, CAt.kp (kp_of s1) _ _ p3, c1, c2, by omega, by omega, fun H2 s2 => ?_⟩
  have z := q H2 (s1.trans s2)
  have ql := quiet_law (w := wd) (closed_atomsP [ax.1, ax.2]) isAt_atomsP c1 c2
  rw [← ql] at z
  unfold told at z
  rw [kept_stl] at z
  exact z
end
end Ax

namespace Ax
open PySem PySem.Spec PyProof.Rows L2
open Oc (C Axiom holds)
theorem bitsP_orL (ks : List Nat) (cs : List C) : bitsP ks cs = orL ks (allIn cs) := rfl
theorem ofAxiom_bits (a : Axiom) (w : Oc06.Words) : Oc06.ofAxiom a w = ⟨w.names ||| bitsP [2] [a.1, a.2], w.roles ||| bitsP [6, 7] [a.1, a.2]⟩ := words_two a w
theorem wider_take {ax : List Axiom} {new : List Nat} {w : Oc06.Words} {i j : Nat} {a : Axiom} (h : new[i]? = some j) (ha : ax[j]? = some a) : wider ax (new.take (i + 1)) w = Oc06.ofAxiom a (wider ax (new.take i) w) := by
  unfold wider
  rw [foldl_take h]
  show (match ax[j]? with | some a => Oc06.ofAxiom a _ | none => _) = _
  rw [ha]
theorem fresh_eq (ax : List Axiom) (l : List Nat) (w : Oc06.Words) : fresh ax l w = ((List.range ax.length).filter fun i => !l.contains i).filter fun i => match ax[i]? with
      | some a => !Oc06.quiet w a
      | none => false := by
  unfold fresh
  rw [List.filter_filter]
  congr 1
  funext i
  refine (Bool.and_comm _ _).trans ?_
  cases ax[i]? <;> rfl
theorem inVl (k : Nat) (l : List Nat) : inV (vI k) (l.map vI) = l.contains k := by
  rw [inVn]
  by_cases h : k ∈ l
  · rw [decide_eq_true h, List.contains_iff_mem.mpr h]
  · rw [decide_eq_false h]
    cases e : l.contains k with
    | false => rfl
    | true => exact absurd (List.contains_iff_mem.mp e) h
section
variable {P : Program} {w : World} {K : PySem.W.Frag} {mg : Str → Option Value} {base : Heap} {A : Ad}
abbrev N_mod : List Str := ["axioms", "names", "roles", "chosen", "is_more", "number", "others", "fresh"]
theorem sc_mod : FnScope N_mod ["axioms", "names", "roles"] (defScope sMod) := ⟨rfl, rfl, rfl, by decide +kernel, rfl, by decide +kernel, by decide +kernel⟩
theorem ok_mod (T : Txt K mg A) : DefOk P w K mg base CX0 44 A.mod ["axioms", "names", "roles"] (spMod A K) := by
  refine T.d_mod.ok sc_mod (fun vs H Q E h => ?_) (fun cdv B outer s H vs Q E hr h => ?_)
  · obtain ⟨la, us, axs, wd, rfl, _⟩ := h
    rfl
  have hr2 : Room 2 _ := hr.mono (by omega)
  refine ⟨_, pss_cons (ps_set (i := 3) sc_mod.nd rfl (.inr rfl) (pe_lst pa_nil)) (pss_cons (ps_set (i := 4) sc_mod.nd rfl (.inl rfl) pe_bl)
    (pss_cons (ps_while PassesOwn.never (pt_val (pv 4))
      (pss_cons (ps_setLc (i := 6) (own := [("number", 5)]) (g := gName 5) (tt := tTest (tOp (rIn K true) (tVar 5) (tVar 3))) (te := tVar 5) rfl sc_mod.nd rfl rfl (sw_true rfl rfl rfl (by decide +kernel)) (pi_range1 rfl T.z_range (pa_cons (lenE T.z_len (pv 0)) pa_nil)) (blkOk_by (N := N_mod) (sc := defScope sMod) (by decide +kernel))
        (fun _ _ _ _ _ => pg_name (i := 5) sc_mod.nd rfl (Or.inl rfl)) (fun _ _ _ _ _ => pts_one (pt_cmpR op_notIn_seq (pv 5) (pv 3) (by rfl))) (fun _ _ _ _ _ => pv 5))
      (pss_cons (ps_setLc (i := 7) (own := [("number", 5)]) (g := gName 5) (tt := tNot (tB (tMeth A.a "is_local" (spLoc A) [] E0 (tOp (rIxL K) (tVar 0) (tVar 5)) (tCons (tVar 1) (tCons (tVar 2) tNil))))) (te := tVar 5) rfl sc_mod.nd rfl rfl (sw_true rfl rfl rfl (by decide +kernel)) (pi_list (pv 6)) (blkOk_by (N := N_mod) (sc := defScope sMod) (by decide +kernel))
        (fun _ _ _ _ _ => pg_name (i := 5) sc_mod.nd rfl (Or.inl rfl)) (fun _ _ _ _ _ => pts_one (pt_not (pt_val (dmeth (ok_loc T) hr T.cl_a T.m_loc pass0 (pe_ix ix_list (pv 0) (pv 5) (fun _ _ => rfl)) (pa_cons (pv 1) (pa_cons (pv 2) pa_nil)))))) (fun _ _ _ _ _ => pv 5))
      (pss_cons (ps_for PassesOwn.never rfl (pi_list (pv 7)) (pg_name (i := 5) sc_mod.nd rfl (.inl rfl))
        (pss_cons (ps_set (i := 1) sc_mod.nd rfl (.inr rfl) (pe_op op_or (pv 1) (pe_ix ix_tup (pe_fld (pe_ix ix_list (pv 0) (pv 5) (fun _ _ => rfl)) rfl) pe_int (fun _ _ => rfl))))
        (pss_one (ps_set (i := 2) sc_mod.nd rfl (.inr rfl) (pe_op op_or (pv 2) (pe_ix ix_tup (pe_fld (pe_ix ix_list (pv 0) (pv 5) (fun _ _ => rfl)) rfl) pe_int (fun _ _ => rfl)))))))
      (pss_cons (ps_set (i := 3) sc_mod.nd rfl (.inr rfl) (pe_op op_cat (pv 3) (pv 7)))
      (pss_one (ps_set (i := 4) sc_mod.nd rfl (.inl rfl) (pe_cmpR op_gt (lenE T.z_len (pv 7)) pe_int (nomark _))))))))
    ) (pss_one (ps_ret (dmake T.mk_m (ok_mI T) hr2 T.g_m pass0 (pa_cons (pe_callB cr_sortedI rfl T.z_sorted (by decide +kernel) (pa_cons (pv 3) pa_nil)) (pa_cons (pv 1) (pa_cons (pv 2) pa_nil)))))))), ?_⟩
  obtain ⟨la, us, axs, wd, rfl, hS, hA, hg, h8, q⟩ := h
  have hul : us.length = axs.length := hA.length.symm
  refine ⟨(by show 0 ≤ sizeLine; decide), fun c0 hc0 => ?_⟩
  refine ⟨fun m σ H' => ∃ (lc : Addr) (l : List Nat) (v : Oc06.Words) (mo : Bool) (v5 v6 v7 : Option V), m = (if mo then left axs l + 1 else 0) ∧ σ = [some (.ref la), some (vI v.names), some (vI v.roles), some (.ref lc), some (.bl mo), v5, v6, v7] ∧ Same H H' ∧ H lc = none ∧ H' lc = some (.lst (l.map vI)) ∧
    l.Nodup ∧ (∀ i ∈ l, i < axs.length) ∧ (mo = true → grw axs l v = grw axs [] wd) ∧ (mo = false → (l, v) = grw axs [] wd), ?_, ?_⟩
  · exact ⟨_, c0, [], wd, true, none, none, none, rfl, rfl, same_new hc0 _, hc0, upd_same, List.nodup_nil, fun i hi => (by cases hi), fun _ => rfl, fun z => (by cases z)⟩
  rintro m σ H' ⟨lc, l, v, mo, v5, v6, v7, rfl, rfl, s1, hlc0, hlc, hnd, hlt, hmo, hdone⟩
  refine ⟨_, rfl, mo, rfl, ?_⟩
  have hll : l.length ≤ 8 := by
    have := nodup_le hnd (m := List.range axs.length) fun i hi => List.mem_range.mpr (hlt i hi)
    rw [List.length_range] at this
    omega
  cases mo with
  | false =>
    have hd := hdone rfl
    refine iteF ⟨_, rfl, lc, l.map fun (i : Nat) => (i : Int), rfl, ?_, fun ns p hperm hsort hp => ?_⟩
    · rw [List.map_map]
      exact SqL.of hlc
    have en := sorted_chosen hnd hlt hperm hsort
    refine ⟨_, rfl, _, rfl, ?_⟩
    intro x dx nx nd ne
    refine ⟨x, dx, _, _, _, rfl, upd_same, rfl, ?_⟩
    have s2 : Same H (upd H' p (.lst (ns.map V.int))) := same_upd s1 (s1.free hp) _
    have s3 : Same H (upd (upd H' p (.lst (ns.map V.int))) dx (.own x)) := same_upd s2 (s2.free nd) _
    have hpx : p ≠ x := ne_of_none (H := upd H' p (.lst (ns.map V.int))) upd_same nx
    have hpd : p ≠ dx := ne_of_none (H := upd H' p (.lst (ns.map V.int))) upd_same nd
    refine q x _ (by rw [upd_upd]; exact same_upd s3 (s2.free nx) _) (s2.free nx) ⟨dx, p, ?_, ?_⟩
    · rw [part_eq, ← hd]
      exact upd_same
    · rw [upd_ne hpx, upd_ne hpx, upd_ne hpd, upd_same, part_eq, ← hd, en, List.map_map]
      rfl
  | true =>
    have hm := hmo rfl
    refine iteT ⟨fun σ' H2 => ∃ (lc' : Addr) (v5 v6 v7 : Option V), σ' = [some (.ref la), some (vI (wider axs (fresh axs l v) v).names), some (vI (wider axs (fresh axs l v) v).roles), some (.ref lc'), some (.bl (decide (fresh axs l v ≠ []))), v5, v6, v7] ∧ Same H H2 ∧ H lc' = none ∧ H2 lc' = some (.lst ((l ++ fresh axs l v).map vI)), ?_, ?_⟩
    · rintro σ' H2 ⟨lc', v5, v6, v7, rfl, k1, k2, k3⟩
      refine ⟨if decide (fresh axs l v ≠ []) then left axs (l ++ fresh axs l v) + 1 else 0, ?_, lc', _, _, _, v5, v6, v7, rfl, rfl, k1, k2, k3, nodup_more hnd, fun i hi => ?_, fun hd => ?_, fun hd => ?_⟩
      · show _ < left axs l + 1
        by_cases c : fresh axs l v = []
        · rw [if_neg (by simp [c])]; omega
        · rw [if_pos (decide_eq_true c)]
          have := left_lt c
          omega
      · rcases List.mem_append.mp hi with z | z
        · exact hlt i z
        · exact (mem_fresh z).1
      · have c := of_decide_eq_true hd
        rw [← hm, grw_more c]
      · have c : fresh axs l v = [] := by
          have := of_decide_eq_false hd
          exact Classical.not_not.mp this
        rw [← hm, grw_done c, c, List.append_nil]
        rfl
    · -- others
      refine ⟨_, rfl, la, us, rfl, .inl (s1.seq hS), _, rfl, by omega, by omega, fun D hD => ?_⟩
      have hDlc : lc ≠ D := ne_of_none hlc hD
      refine lc_range (lo := 0) (n := ((us.length : Nat) : Int).toNat) (Pv := fun i H2 => Same H' H2 ∧ H2 D = some (.lst ((((List.range axs.length).take i).filter fun i => !l.contains i).map vI))) ?_ ?_ ?_
      · exact ⟨same_new hD _, upd_same⟩
      · rintro i H2 hi ⟨n1, n2⟩
        rw [Int.toNat_natCast, hul] at hi
        have e0 : V.int ((0 : Int) + (i : Int)) = vI i := congrArg V.int (Int.zero_add _)
        rw [e0]
        have flat : (l.map vI).all flatV = true := flat_ints l
        refine ⟨rfl, _, rfl, _, rfl, lc, _, rfl, .inl (SqL.of (n1 _ _ hlc)), rfl, flat, _, rfl, ?_⟩
        show if (!inV (vI i) (l.map vI)) = true then _ else _
        rw [inVl]
        cases hb : l.contains i with
        | true =>
          refine ⟨n1, ?_⟩
          rw [filter_take (range_take hi), hb]
          simpa using n2
        | false =>
          refine ⟨_, rfl, _, n2, ?_, same_upd n1 hD _, ?_⟩
          · have z := List.length_filter_le (fun i => !l.contains i) ((List.range axs.length).take i)
            rw [List.length_take] at z
            rw [List.length_map]
            exact small1000 (by omega)
          · rw [upd_same, filter_take (range_take hi), hb]
            simp
      rintro H2 ⟨n1, n2⟩
      rw [Int.toNat_natCast, hul, range_all] at n2
      have s2 := s1.trans n1
      -- fresh
      refine ⟨_, rfl, D, rfl, ⟨_, SqL.of n2⟩, fun D2 hD2 => ?_⟩
      have hDD2 : D ≠ D2 := ne_of_none n2 hD2
      refine lc_list (K := K) (a := D) (xs := ((List.range axs.length).filter fun i => !l.contains i).map vI) (fun j H3 => Same H2 H3 ∧ H3 D2 = some (.lst (((((List.range axs.length).filter fun i => !l.contains i).take j).filter fun i => match axs[i]? with
          | some a => !Oc06.quiet v a
          | none => false).map vI))) ?_ ?_ ?_ ?_
      · exact ⟨same_new hD2 _, upd_same⟩
      · rintro j H3 _ ⟨t1, _⟩
        exact SqL.of (t1 _ _ n2)
      · rintro j x H3 hx ⟨t1, t2⟩
        obtain ⟨i, hi, rfl⟩ := vI_at hx
        have hil : i < axs.length := List.mem_range.mp (List.mem_filter.mp (List.mem_of_getElem? hi)).1
        have hai : axs[i]? = some axs[i] := List.getElem?_eq_getElem hil
        obtain ⟨y, hy⟩ : ∃ y, us[i]? = some y := ⟨us[i]'(by omega), List.getElem?_eq_getElem (by omega)⟩
        obtain ⟨ax, hax, hAx⟩ := paired_at hA hy
        rw [hai] at hax
        cases hax
        have s3 := s2.trans t1
        have hA3 := hAx.kp (kp_of s3)
        obtain ⟨aa, dx, pl, fr, st, rfl, a1, a2, a3, a4⟩ := hA3.ex
        refine ⟨rfl, _, rfl, _, rfl, la, us, _, _, rfl, rfl, s3.seq hS, atI_nat hy, aa, dx, _, rfl, a1, aF_loc, _, rfl, _, rfl, .ref aa, v, axs[i], rfl, hA3, hg _ (List.getElem_mem hil), fun H4 s4 => ⟨_, rfl, ?_⟩⟩
        have t2' := s4 _ _ t2
        cases hq : Oc06.quiet v axs[i] with
        | true =>
          refine ⟨t1.trans s4, ?_⟩
          rw [filter_take hi, hai]
          simp only [hq]
          simpa using t2'
        | false =>
          refine ⟨_, rfl, _, t2', ?_, same_upd (t1.trans s4) hD2 _, ?_⟩
          · have z := List.length_filter_le (fun i => match axs[i]? with
              | some a => !Oc06.quiet v a
              | none => false) (((List.range axs.length).filter fun i => !l.contains i).take j)
            have z2 := List.length_filter_le (fun i => !l.contains i) (List.range axs.length)
            rw [List.length_take] at z
            rw [List.length_range] at z2
            rw [List.length_map]
            exact small1000 (by omega)
          · rw [upd_same, filter_take hi, hai]
            simp [hq]
      rintro H3 ⟨t1, t2⟩
      rw [List.length_map, List.take_length, ← fresh_eq] at t2
      have s3 := s2.trans t1
      have hfl : (fresh axs l v).length ≤ 8 := by
        have z := List.length_filter_le (fun i => !l.contains i && match axs[i]? with
            | some a => !Oc06.quiet v a
            | none => false) (List.range axs.length)
        rw [List.length_range] at z
        have : (fresh axs l v).length ≤ axs.length := z
        omega
      -- the signature grows
      refine ⟨_, rfl, D2, rfl, ⟨_, SqL.of t2⟩, ?_⟩
      refine for_list (K := K) (a := D2) (xs := (fresh axs l v).map vI) (fun j σ' H4 => H4 = H3 ∧ ∃ v5 : Option V, σ' = [some (.ref la), some (vI (wider axs ((fresh axs l v).take j) v).names), some (vI (wider axs ((fresh axs l v).take j) v).roles), some (.ref lc), some (.bl true), v5, some (.ref D), some (.ref D2)]) ?_ ?_ ?_ ?_
      · exact ⟨rfl, v5, rfl⟩
      · rintro j σ' H4 _ ⟨rfl, _⟩
        exact SqL.of t2
      · rintro j x σ' H4 hx ⟨rfl, v5', rfl⟩
        obtain ⟨i, hi, rfl⟩ := vI_at hx
        have hil : i < axs.length := (mem_fresh (List.mem_of_getElem? hi)).1
        have hai : axs[i]? = some axs[i] := List.getElem?_eq_getElem hil
        obtain ⟨y, hy⟩ : ∃ y, us[i]? = some y := ⟨us[i]'(by omega), List.getElem?_eq_getElem (by omega)⟩
        obtain ⟨ax, hax, hAx⟩ := paired_at hA hy
        rw [hai] at hax
        cases hax
        have hA3 := hAx.kp (kp_of s3)
        obtain ⟨aa, dx, pl, fr, st, rfl, a1, a2, a3, a4⟩ := hA3.ex
        refine ⟨_, rfl, _, rfl, _, rfl, la, us, _, _, rfl, rfl, s3.seq hS, atI_nat hy, aa, A.a, dx, _, _, rfl, a1, T.cl_a, T.n_a_signature, aF_sig, st, _, _, _, rfl, rfl, SqT.of a4, atI_nat (j := 0) rfl, _, _, rfl, rfl, ?_⟩
        refine ⟨_, rfl, _, rfl, _, rfl, la, us, _, _, rfl, rfl, s3.seq hS, atI_nat hy, aa, A.a, dx, _, _, rfl, a1, T.cl_a, T.n_a_signature, aF_sig, st, _, _, _, rfl, rfl, SqT.of a4, atI_nat (j := 1) rfl, _, _, rfl, rfl, ?_⟩
        refine ⟨rfl, some (vI i), ?_⟩
        rw [wider_take hi hai, ofAxiom_bits]
        have e1 : V.int (Builtin.bitOr (((wider axs ((fresh axs l v).take j) v).names : Nat) : Int) ((bitsP [2] [axs[i].1, axs[i].2] : Nat) : Int)) = vI ((wider axs ((fresh axs l v).take j) v).names ||| bitsP [2] [axs[i].1, axs[i].2]) := by rw [bitOr_nat]; rfl
        have e2 : V.int (Builtin.bitOr (((wider axs ((fresh axs l v).take j) v).roles : Nat) : Int) ((bitsP [6, 7] [axs[i].1, axs[i].2] : Nat) : Int)) = vI ((wider axs ((fresh axs l v).take j) v).roles ||| bitsP [6, 7] [axs[i].1, axs[i].2]) := by rw [bitOr_nat]; rfl
        show _ = [some (.ref la), some (vI ((wider axs ((fresh axs l v).take j) v).names ||| bitsP [2] [axs[i].1, axs[i].2])), some (vI ((wider axs ((fresh axs l v).take j) v).roles ||| bitsP [6, 7] [axs[i].1, axs[i].2])), some (.ref lc), some (.bl true), some (vI i), some (.ref D), some (.ref D2)]
        rw [← e1, ← e2]
        rfl
      rintro σ' H4 ⟨rfl, v5', rfl⟩
      rw [List.length_map, List.take_length]
      refine ⟨_, rfl, _, rfl, lc, D2, _, _, rfl, rfl, t1 _ _ (n1 _ _ hlc), t2, ?_, fun p hp => ?_⟩
      · rw [List.length_map, List.length_map]
        exact Nat.le_of_lt (small1000 (by omega))
      have t3 : upd H4 p (.lst (l.map vI ++ (fresh axs l v).map vI)) D2 = some (.lst ((fresh axs l v).map vI)) := by rw [upd_ne (ne_of_none t2 hp)]; exact t2
      refine ⟨_, rfl, D2, _, rfl, .inl (SqL.of t3), _, _, rfl, rfl, p, v5', some (.ref D), some (.ref D2), ?_, same_upd s3 (s3.free hp) _, s3.free hp, ?_⟩
      · have e : decide ((0 : Int) < ((((fresh axs l v).map vI).length : Nat) : Int)) = decide (fresh axs l v ≠ []) := by
          rw [List.length_map]
          by_cases c : fresh axs l v = []
          · rw [c]; rfl
          · have := List.length_pos_iff.mpr c
            rw [decide_eq_true c, decide_eq_true (by omega)]
        rw [← e]
        rfl
      · rw [upd_same, List.map_append]
end
end Ax

namespace Ax
open PySem PySem.Spec PyProof.Rows L2
open Oc (C Axiom holds)
local macro_rules | `(tactic| walk_at "ax lk") => `(tactic| (first | with_reducible exact lk0 | with_reducible exact lkN | (refine (lk1 (by decide +kernel)).trans ?_; walk_at "ax lk")))
local macro_rules | `(tactic| walk_at "ax put") => `(tactic| (first | with_reducible exact putN | with_reducible exact put0 | (refine put1' (by decide +kernel) ?_; walk_at "ax put")))
abbrev dF (a : V) : List (Str × V) := [("axioms", a)]
theorem dF_1 {a : V} : putF "axioms" a [] = dF a := by walk_at "ax put"
theorem dF_2 {a b : V} : putF "axioms" b (dF a) = dF b := by walk_at "ax put"
theorem dF_axioms {a : V} : (dF a).lookup ("axioms" : Str) = some a := by walk_at "ax lk"
theorem dF_beg {a : V} : (dF a).lookup ("begins" : Str) = none := by walk_at "ax lk"
theorem dF_line {a : V} : (dF a).lookup ("line" : Str) = none := by walk_at "ax lk"
theorem dF_drop {a : V} : (dF a).lookup ("drop" : Str) = none := by walk_at "ax lk"
theorem dF_words {a : V} : (dF a).lookup ("words" : Str) = none := by walk_at "ax lk"
theorem dF_quiet {a : V} : (dF a).lookup ("quiet" : Str) = none := by walk_at "ax lk"
theorem dF_part {a : V} : (dF a).lookup ("part" : Str) = none := by walk_at "ax lk"
theorem dF_ch {a : V} : (dF a).lookup ("chosen_for" : Str) = none := by walk_at "ax lk"
theorem dF_und {a : V} : (dF a).lookup ("under" : Str) = none := by walk_at "ax lk"
theorem dF_by {a : V} : (dF a).lookup ("by" : Str) = none := by walk_at "ax lk"
theorem dF_tell {a : V} : (dF a).lookup ("tell_parts" : Str) = none := by walk_at "ax lk"
theorem dF_ans {a : V} : (dF a).lookup ("answer" : Str) = none := by walk_at "ax lk"
/-! ### the desk in the heap -/
structure DeskAt (A : Ad) (H : Hp) (d : Addr) (axs : List Axiom) : Prop where
  ex : ∃ dx l us, H d = some (.ins A.d dx (dF (.ref l))) ∧ H l = some (.lst us) ∧ Paired (AxAt A H) axs us
  good : ∀ ax ∈ axs, GoodAx ax
  few : axs.length ≤ 8
theorem DeskAt.kp {A : Ad} {H H' : Hp} {d : Addr} {axs : List Axiom} (s : Kp H H') (h : DeskAt A H d axs) : DeskAt A H' d axs := by
  obtain ⟨dx, l, us, h1, h2, h3⟩ := h.ex
  exact ⟨⟨dx, l, us, s _ _ h1 (fun _ z => by cases z), s _ _ h2 (fun _ z => by cases z), Paired.mapP h3 fun ax v => AxAt.kp s⟩, h.good, h.few⟩
theorem AxAt.off {A : Ad} {H : Hp} {p Cp dx : Addr} {fs : List (Str × V)} {o : HO} (hp : H p = some (.ins Cp dx fs)) (hl : fs.length = 1) {ax : Axiom} {v : V} (h : AxAt A H ax v) : AxAt A (upd H p o) ax v := by
  obtain ⟨a, ad, pl, fr, st, e, h1, h2, h3, h4⟩ := h.ex
  obtain ⟨pl', vc, vd, e2, p1, p2, p3⟩ := h2.ex
  cases e2
  have hl4 : fs.length ≠ 4 := by omega
  have m1 : a ≠ p := fun z => by
    rw [z, hp] at h1
    injection h1 with h1
    injection h1 with _ _ h1
    have := congrArg List.length h1
    rw [hl] at this
    exact absurd this (by show ¬ 1 = 3; decide)
  have m2 : pl ≠ p := fun z => by rw [z, hp] at p1; cases p1
  have m3 : st ≠ p := fun z => by rw [z, hp] at h4; cases h4
  have m4 : fr ≠ p := fun z => by
    obtain ⟨fx, la, ls, li, us, f1, _⟩ := h3.ex
    rw [z, hp] at f1
    injection f1 with f1
    injection f1 with _ _ f1
    have := congrArg List.length f1
    rw [hl] at this
    exact absurd this (by show ¬ 1 = 3; decide)
  exact ⟨a, ad, pl, fr, st, e, by rw [upd_ne m1]; exact h1, ⟨pl, vc, vd, rfl, by rw [upd_ne m2]; exact p1, CAt.off hp hl4 _ _ p2, CAt.off hp hl4 _ _ p3⟩, FrAt.off hp hl4 m4 h3, by rw [upd_ne m3]; exact h4⟩
/-- a call's end: a new list of what is answered, the desk as it is then, all else as it was -/
def EndsD (A : Ad) (d : Addr) (H : Hp) (Q : VK) (axs : List Axiom) (ans : List Int) : Prop := ∀ (p : Addr) (H' : Hp), (∀ b o, H b = some o → b ≠ d → H' b = some o) → H p = none → H' p = some (.lst (ans.map V.int)) → DeskAt A H' d axs → Q (.ref p) H'
structure OutM (A : Ad) (d : Addr) (H : Hp) (Q : VK) (E : XK) (axs : List Axiom) (x : Oc06.Call) : Prop where
  bad : (Oc06.step ⟨axs⟩ x).2.v < 0 → Raised A (Oc06.step ⟨axs⟩ x).2.v H E
  good : 0 ≤ (Oc06.step ⟨axs⟩ x).2.v → EndsD A d H Q (Oc06.step ⟨axs⟩ x).1.axioms (Oc06Neutral.out (Oc06.step ⟨axs⟩ x).2)
theorem OutM.is {A : Ad} {d : Addr} {H : Hp} {Q : VK} {E : XK} {axs : List Axiom} {x : Oc06.Call} (o : OutM A d H Q E axs x) {h : Oc06.House} {a : Oc06.Ans} (e : Oc06.step ⟨axs⟩ x = (h, a)) : (a.v < 0 → Raised A a.v H E) ∧ (0 ≤ a.v → EndsD A d H Q h.axioms (a.v :: a.l.map fun (n : Nat) => (n : Int))) := by
  have h1 := o.bad
  have h2 := o.good
  rw [e] at h1 h2
  exact ⟨h1, h2⟩
def spDI (A : Ad) : Sp := fun vs H Q _ => ∃ (d dx : Addr), vs = [.ref d] ∧ H d = some (.ins A.d dx []) ∧ ∀ H', (∀ b o, H b = some o → b ≠ d → H' b = some o) → DeskAt A H' d [] → Q .non H'
def spBeg (A : Ad) : Sp := fun vs H Q E => ∃ (d : Addr) (axs : List Axiom), vs = [.ref d] ∧ DeskAt A H d axs ∧ OutM A d H Q E axs .begins
def spTell (A : Ad) : Sp := fun vs H Q E => ∃ (d : Addr) (axs : List Axiom), vs = [.ref d] ∧ DeskAt A H d axs ∧ OutM A d H Q E axs .parts
/-- a call with a row -/
def spRow (A : Ad) (K : PySem.W.Frag) (mk : List Nat → Oc06.Call) : Sp := fun vs H Q E => ∃ (d a : Addr) (axs : List Axiom) (ns : List Nat), vs = [.ref d, .ref a] ∧ DeskAt A H d axs ∧ SqL K H a (ns.map vI) ∧ ns.length ≤ 30 ∧ OutM A d H Q E axs (mk ns)
def spDrop (A : Ad) : Sp := fun vs H Q E => ∃ (d : Addr) (axs : List Axiom) (i : Nat), vs = [.ref d, vI i] ∧ DeskAt A H d axs ∧ OutM A d H Q E axs (.drop i)
def spQuiet (A : Ad) : Sp := fun vs H Q E => ∃ (d : Addr) (axs : List Axiom) (i n r : Nat), vs = [.ref d, vI i, vI n, vI r] ∧ DeskAt A H d axs ∧ OutM A d H Q E axs (.quiet i n r)
def spPart (A : Ad) : Sp := fun vs H Q E => ∃ (d : Addr) (axs : List Axiom) (n r : Nat), vs = [.ref d, vI n, vI r] ∧ DeskAt A H d axs ∧ OutM A d H Q E axs (.part n r)
def spCh (A : Ad) (K : PySem.W.Frag) : Sp := fun vs H Q _ => ∃ (d a : Addr) (axs : List Axiom) (c : Axiom) (us : List V), vs = [.ref d, .ref a] ∧ DeskAt A H d axs ∧ SqL K H a us ∧ CsAt A.c H [c.1, c.2] us ∧ (enc c.1).length + (enc c.2).length ≤ 30 ∧ okC c.1 = true ∧ okC c.2 = true ∧
  ∀ p H', Same H H' → H' p = some (.lst ((Oc06.part axs (Oc06.ofAxiom c ⟨0, 0⟩)).1.map vI)) → Q (.ref p) H'
theorem part_len (axs : List Axiom) (wd : Oc06.Words) : (Oc06.part axs wd).1.length ≤ axs.length := by
  rw [part_eq]
  have := List.length_filter_le (grw axs [] wd).1.contains (List.range axs.length)
  rw [List.length_range] at this
  exact this
theorem vI_map (l : List Nat) : l.map vI = (l.map fun (n : Nat) => (n : Int)).map V.int := by
  rw [List.map_map]; rfl
/-- two concepts, from what was read -/
theorem two_some {ns : List Nat} {c : C × C} (h : Oc.two ns = some c) : Rs 2 ns = some ([c.1, c.2], []) := by
  rw [two_eq] at h
  split at h
  · rename_i c' d' e
    cases h
    exact e
  · cases h
theorem two_none {ns : List Nat} (h : Oc.two ns = none) : ∀ cs, Rs 2 ns ≠ some (cs, []) := fun cs e => by
  have hc := Rs_count e
  match cs, hc with
  | [c, d], _ =>
    rw [two_eq, e] at h
    cases h
theorem one_some {ns : List Nat} {c : C} (h : Oc.concept ns = some c) : Rs 1 ns = some ([c], []) := by
  rw [concept_eq] at h
  split at h
  · rename_i c' e
    cases h
    exact e
  · cases h
theorem one_none {ns : List Nat} (h : Oc.concept ns = none) : ∀ cs, Rs 1 ns ≠ some (cs, []) := fun cs e => by
  have hc := Rs_count e
  match cs, hc with
  | [c], _ =>
    rw [concept_eq, e] at h
    cases h
theorem two_len {ns : List Nat} {c : C × C} (h : Oc.two ns = some c) : (enc c.1).length + (enc c.2).length = ns.length ∧ okC c.1 = true ∧ okC c.2 = true := by
  obtain ⟨h1, h2⟩ := Rs_is (two_some h)
  refine ⟨?_, h2 _ (by simp), h2 _ (by simp)⟩
  have := congrArg List.length h1
  simp at this
  omega
theorem atoms_two (c : C × C) : (atomsP [c.1, c.2]).length = (Oc.atomsOf [c.1, c.2]).length := atomsP_count fun x => Iff.rfl
section
variable {P : Program} {w : World} {K : PySem.W.Frag} {mg : Str → Option Value} {base : Heap} {A : Ad}
theorem sc_dI : FnScope ["self"] ["self"] (defScope sDI) := ⟨rfl, rfl, rfl, by decide +kernel, rfl, by decide +kernel, by decide +kernel⟩
theorem ok_dI (T : Txt K mg A) : DefOk P w K mg base CX0 1 A.dI ["self"] (spDI A) := by
  refine T.d_dI.ok sc_dI (fun vs H Q E h => ?_) (fun cdv B outer s H vs Q E hr h => ⟨_, pss_one (ps_fld (pv 0) (pe_lst pa_nil) rfl), ?_⟩)
  · obtain ⟨d, dx, rfl, _⟩ := h
    rfl
  · obtain ⟨d, dx, rfl, h1, q⟩ := h
    refine ⟨(by show 0 ≤ sizeLine; decide), fun l hl => ?_⟩
    have hdl : d ≠ l := ne_of_none h1 hl
    refine ⟨_, rfl, d, A.d, dx, _, rfl, by rw [upd_ne hdl]; exact h1, T.cl_d, T.n_d_axioms, ins_len (by show 0 ≤ 10; decide), ?_⟩
    rw [dF_1]
    refine q _ (fun b o e hb => by rw [upd_ne hb, upd_ne (ne_of_none e hl)]; exact e) ⟨⟨dx, l, [], upd_same, by rw [upd_ne (Ne.symm hdl), upd_same], .nil⟩, fun ax hax => (by cases hax), by show 0 ≤ 8; decide⟩
theorem sc_dBeg : FnScope ["self"] ["self"] (defScope sDBeg) := ⟨rfl, rfl, rfl, by decide +kernel, rfl, by decide +kernel, by decide +kernel⟩
theorem ok_dBeg (T : Txt K mg A) : DefOk P w K mg base (L2.CX P w) 1 A.dBeg ["self"] (spBeg A) := by
  refine T.d_dBeg.okX sc_dBeg (fun vs H Q E h => ?_) (fun cdv B outer s H vs Q E hr h => ⟨_, pss_cons (ps_fld (pv 0) (pe_lst pa_nil) rfl) (pss_one (ps_ret (pe_lst (pa_cons pe_int pa_nil)))), ?_⟩)
  · obtain ⟨d, axs, rfl, _⟩ := h
    rfl
  · obtain ⟨d, axs, rfl, hD, o⟩ := h
    obtain ⟨dx, l0, us, h1, h2, h3⟩ := hD.ex
    have q := (o.is (h := Oc06.init) (a := Oc06.ok 0) rfl).2 (Int.le_refl 0)
    refine ⟨(by show 0 ≤ sizeLine; decide), fun l hl => ?_⟩
    have hdl : d ≠ l := ne_of_none h1 hl
    refine ⟨_, rfl, d, A.d, dx, _, rfl, by rw [upd_ne hdl]; exact h1, T.cl_d, T.n_d_axioms, ins_len (by show 1 ≤ 10; decide), ?_⟩
    rw [dF_2]
    refine ⟨(by show 1 ≤ sizeLine; decide), fun p hp => ?_⟩
    have hdp : d ≠ p := ne_of_none upd_same hp
    have hlp : l ≠ p := ne_of_none (H := upd (upd H l (.lst [])) d (.ins A.d dx (dF (.ref l)))) (by rw [upd_ne (Ne.symm hdl), upd_same]) hp
    have hp0 : H p = none := by
      rw [upd_ne (Ne.symm hdp), upd_ne (Ne.symm hlp)] at hp
      exact hp
    refine q p _ (fun b o e hb => ?_) hp0 upd_same ⟨⟨dx, l, [], by rw [upd_ne hdp, upd_same], by rw [upd_ne hlp, upd_ne (Ne.symm hdl), upd_same], .nil⟩, fun ax hax => (by cases hax), by show 0 ≤ 8; decide⟩
    rw [upd_ne (ne_of_none e hp0), upd_ne hb, upd_ne (ne_of_none e hl)]
    exact e
theorem sc_dLine : FnScope ["self", "numbers", "concepts"] ["self", "numbers"] (defScope sDLine) := ⟨rfl, rfl, rfl, by decide +kernel, rfl, by decide +kernel, by decide +kernel⟩
theorem ok_dLine (T : Txt K mg A) : DefOk P w K mg base (L2.CX P w) 47 A.dLine ["self", "numbers"] (spRow A K .line) := by
  refine T.d_dLine.okX sc_dLine (fun vs H Q E h => ?_) (fun cdv B outer s H vs Q E hr h => ?_)
  · obtain ⟨d, a, axs, ns, rfl, _⟩ := h
    rfl
  have hr36 : Room 36 _ := hr.mono (by omega)
  have hr3 : Room 3 _ := hr.mono (by omega)
  refine ⟨_, pss_cons (ps_set (i := 2) sc_dLine.nd rfl (.inl rfl) (dcall (ok_co T) hr36 T.g_co passD (pa_cons (pv 1) (pa_cons pe_int pa_nil))))
    (pss_cons (ps_expr (dcall (ok_ask T) hr3 T.g_ask passD (pa_cons (pe_and (pe_cmpR op_lt (lenE T.z_len (pe_fld (pv 0) rfl)) (gi T.vMOST_AXIOMS) (nomark _)) (pe_one (dcall (ok_has T) hr3 T.g_has pass0 (pa_cons (pv 2) pa_nil)))) (pa_cons (gi T.vTOO_MANY) pa_nil))))
    (pss_cons (ps_fld (pv 0) (pe_op op_cat (pe_fld (pv 0) rfl) (pe_lst (pa_cons (dmake T.mk_a (ok_aI T) hr T.g_a pass0 (pa_cons (pv 2) pa_nil)) pa_nil))) rfl)
    (pss_one (ps_ret (pe_lst (pa_cons (pe_op op_sub (lenE T.z_len (pe_fld (pv 0) rfl)) pe_int) pa_nil)))))), ?_⟩
  obtain ⟨d, a, axs, ns, rfl, hD, hS, hlen, o⟩ := h
  obtain ⟨dx, l0, us, h1, h2, h3⟩ := hD.ex
  refine ⟨_, rfl, a, ns, 2, rfl, hS, hlen, Nat.le_refl 2, fun hbad => ?_, fun cs hcs l H1 vs1 s1 hl0 hl hC => ?_⟩
  · have e : Oc.two ns = none := by
      cases e : Oc.two ns with
      | none => rfl
      | some c => exact absurd (two_some e) (hbad _)
    exact (o.is (h := ⟨axs⟩) (a := Oc06.ok (-1)) (by show (match Oc.two ns with | none => _ | some a => _) = _; rw [e])).1 (by decide)
  -- two concepts
  obtain ⟨c, e, rfl⟩ : ∃ c : C × C, Oc.two ns = some c ∧ cs = [c.1, c.2] := by
    have hc := Rs_count hcs
    match cs, hc with
    | [c, d'], _ => exact ⟨(c, d'), by rw [two_eq, hcs], rfl⟩
  obtain ⟨n1, n2, n3⟩ := two_len e
  match vs1, hC with
  | [vc, vd], .cons hcC (.cons hcD .nil) =>
  have hz : szs [c.1, c.2] ≤ 1000 := by rw [szs_cons, szs_cons, szs_nil]; omega
  have e1 := s1 _ _ h1
  have e2 := s1 _ _ h2
  have hul : us.length = axs.length := h3.length.symm
  have estep : Oc06.step ⟨axs⟩ (.line ns) = if axs.length = 8 ∨ 4 < (Oc.atomsOf [c.1, c.2]).length then (⟨axs⟩, Oc06.ok (-7)) else (⟨axs ++ [c]⟩, Oc06.ok (axs.length : Nat)) := by
    show (match Oc.two ns with | none => _ | some a => _) = _
    rw [e]
    rfl
  refine ⟨_, rfl, d, A.d, dx, _, _, rfl, e1, T.cl_d, T.n_d_axioms, dF_axioms, l0, _, rfl, .inl (SqL.of e2), _, _, rfl, rfl, _, rfl, ?_⟩
  show if decide ((us.length : Int) < ((8 : Nat) : Int)) = true then _ else _
  rw [ltI]
  have few := hD.few
  by_cases c8 : us.length < 8
  rotate_left
  · have q := (o.is (h := ⟨axs⟩) (a := Oc06.ok (-7)) (by rw [estep, if_pos (.inl (by omega))])).1 (by decide)
    exact dec_false c8 ⟨false, -7, rfl, fun z => (by cases z), fun _ => q.same s1⟩
  refine dec_true c8 ⟨_, rfl, l, [c.1, c.2], [vc, vd], rfl, SqL.of hl, .cons hcC (.cons hcD .nil), hz, fun H2 s2 => ?_⟩
  have s12 := s1.trans s2
  refine ⟨_, -7, rfl, fun hb => ?_, fun hb => ?_⟩
  rotate_left
  · have hb' := of_decide_eq_false hb
    rw [atoms_two] at hb'
    exact ((o.is (h := ⟨axs⟩) (a := Oc06.ok (-7)) (by rw [estep, if_pos (.inr (by omega))])).1 (by decide)).same s12
  have hb' := of_decide_eq_true hb
  have hgx : GoodAx c := ⟨n2, n3, by omega, hb'⟩
  have q := (o.is (h := ⟨axs ++ [c]⟩) (a := Oc06.ok (axs.length : Nat)) (by rw [estep, if_neg]; rw [← atoms_two]; omega)).2 (Int.natCast_nonneg _)
  have e3 := s2 _ _ e1
  have e4 := s2 _ _ e2
  -- self.axioms + [Axiom(concepts)]
  refine ⟨_, rfl, d, A.d, dx, _, _, rfl, e3, T.cl_d, T.n_d_axioms, dF_axioms, ?_⟩
  refine ⟨_, rfl, ?_⟩
  intro x xd nx nd ne
  have k0 : Same H2 (upd (upd H2 xd (.own x)) x (.ins A.a xd [])) := same_upd (same_new nd _) nx _
  refine ⟨x, xd, l, vc, vd, c, H2, rfl, upd_same, k0, nx, s2 _ _ hl, CAt.kp (kp_of s2) _ _ hcC, CAt.kp (kp_of s2) _ _ hcD, hgx, fun H3 hAx k3 => ⟨rfl, ?_⟩⟩
  have s3 : Same H2 H3 := fun b o e => k3 b o (k0 b o e) (ne_of_none e nx)
  refine ⟨(by show 1 ≤ sizeLine; decide), fun p1 hp1 => ?_⟩
  have s4 : Same H2 (upd H3 p1 (.lst [.ref x])) := same_upd s3 (s3.free hp1) _
  refine ⟨l0, p1, us, [.ref x], rfl, rfl, s4 _ _ e4, upd_same, ?_, fun p2 hp2 => ?_⟩
  · exact Nat.le_of_lt (small1000 (by show us.length + 1 ≤ 1000; omega))
  have s5 : Same H3 (upd (upd H3 p1 (.lst [.ref x])) p2 (.lst (us ++ [.ref x]))) := (same_new hp1 _).trans (same_new hp2 _)
  have s6 : Same H2 (upd (upd H3 p1 (.lst [.ref x])) p2 (.lst (us ++ [.ref x]))) := s3.trans s5
  have e5 := s6 _ _ e3
  have hp2l : upd (upd H3 p1 (.lst [.ref x])) p2 (.lst (us ++ [.ref x])) p2 = some (.lst (us ++ [.ref x])) := upd_same
  refine ⟨_, rfl, d, A.d, dx, _, rfl, e5, T.cl_d, T.n_d_axioms, ins_len (by show 1 ≤ 10; decide), ?_⟩
  rw [dF_2]
  have hpair : Paired (AxAt A (upd (upd H3 p1 (.lst [.ref x])) p2 (.lst (us ++ [.ref x])))) (axs ++ [c]) (us ++ [.ref x]) := Paired.snoc (Paired.mapP h3 fun ax v => AxAt.kp (kp_of (s12.trans s6))) (hAx.kp (kp_of s5))
  have sAll := s12.trans s6
  have hp20 : H p2 = none := (s12.trans s4).free hp2
  generalize upd (upd H3 p1 (.lst [.ref x])) p2 (.lst (us ++ [.ref x])) = H5 at *
  have hdp2 : p2 ≠ d := fun z => by rw [z, e5] at hp2l; cases hp2l
  refine ⟨_, rfl, d, A.d, dx, _, _, rfl, upd_same, T.cl_d, T.n_d_axioms, dF_axioms, p2, _, rfl, .inl (SqL.of (by rw [upd_ne hdp2]; exact hp2l)), _, _, rfl, rfl, (by show 1 ≤ sizeLine; decide), fun p3 hp3 => ?_⟩
  have hdp3 : d ≠ p3 := ne_of_none upd_same hp3
  have hp50 : H5 p3 = none := by rw [upd_ne (Ne.symm hdp3)] at hp3; exact hp3
  refine q p3 _ (fun b o e hb => ?_) (sAll.free hp50) ?_ ⟨⟨dx, p2, us ++ [.ref x], by rw [upd_ne hdp3, upd_same], ?_, ?_⟩, ?_, ?_⟩
  · have e' := sAll _ _ e
    rw [upd_ne (ne_of_none e' hp50), upd_ne hb]
    exact e'
  · rw [upd_same, List.length_append, List.length_singleton, hul]
    have : ((axs.length + 1 : Nat) : Int) - 1 = (axs.length : Int) := by omega
    show some (HO.lst [V.int (((axs.length + 1 : Nat) : Int) - 1)]) = _
    rw [this]
    rfl
  · rw [upd_ne (ne_of_none hp2l hp50), upd_ne hdp2]; exact hp2l
  · refine Paired.mapP hpair fun ax v h => ?_
    have h' := AxAt.off (o := .ins A.d dx (dF (.ref p2))) e5 rfl h
    exact h'.kp (kp_of (same_new hp3 _))
  · intro ax hax
    rcases List.mem_append.mp hax with z | z
    · exact hD.good ax z
    · rw [List.mem_singleton.mp z]; exact hgx
  · show (axs ++ [c]).length ≤ 8
    rw [List.length_append, List.length_singleton]; omega
end
end Ax

namespace Ax
open PySem PySem.Spec PyProof.Rows L2
open Oc (C Axiom holds)
theorem cut_head {xs : List V} {i : Nat} (h : i ≤ xs.length) : cutV xs none (some (i : Int)) = xs.take i := by
  unfold cutV
  rw [HT.sIx_none, HT.sIx_nat, Nat.min_eq_left h, List.drop_zero, Nat.sub_zero]
theorem cut_tail {xs : List V} {i : Nat} (h : i ≤ xs.length) : cutV xs (some (i : Int)) none = xs.drop i := by
  unfold cutV
  rw [HT.sIx_none, HT.sIx_nat, Nat.min_eq_left h]
  rw [List.take_of_length_le (by rw [List.length_drop]; exact Nat.le_refl _)]
theorem paired_take {α β : Type} {F : α → β → Prop} : ∀ {l : List α} {m : List β} (n : Nat), Paired F l m → Paired F (l.take n) (m.take n)
  | _, _, 0, _ => .nil
  | _, _, n + 1, .nil => .nil
  | _, _, n + 1, .cons r t => .cons r (paired_take n t)
theorem paired_drop {α β : Type} {F : α → β → Prop} : ∀ {l : List α} {m : List β} (n : Nat), Paired F l m → Paired F (l.drop n) (m.drop n)
  | _, _, 0, r => r
  | _, _, n + 1, .nil => .nil
  | _, _, n + 1, .cons _ t => paired_drop n t
section
variable {P : Program} {w : World} {K : PySem.W.Frag} {mg : Str → Option Value} {base : Heap} {A : Ad}
theorem sc_dDrop : FnScope ["self", "index"] ["self", "index"] (defScope sDDrop) := ⟨rfl, rfl, rfl, by decide +kernel, rfl, by decide +kernel, by decide +kernel⟩
theorem ok_dDrop (T : Txt K mg A) : DefOk P w K mg base (L2.CX P w) 4 A.dDrop ["self", "index"] (spDrop A) := by
  refine T.d_dDrop.okX sc_dDrop (fun vs H Q E h => ?_) (fun cdv B outer s H vs Q E hr h => ⟨_, pss_cons (ps_expr (dcall (ok_ask T) hr T.g_ask passD (pa_cons (pe_cmpR op_lt (pv 1) (lenE T.z_len (pe_fld (pv 0) rfl)) (nomark _)) (pa_cons (gi T.vNONE_SUCH) pa_nil))))
    (pss_cons (ps_fld (pv 0) (pe_op op_cat (pe_slice sl_list (pe_fld (pv 0) rfl) po_none (po_some (pv 1))) (pe_slice sl_list (pe_fld (pv 0) rfl) (po_some (pe_op op_add (pv 1) pe_int)) po_none)) rfl)
    (pss_one (ps_ret (pe_lst (pa_cons (lenE T.z_len (pe_fld (pv 0) rfl)) pa_nil))))), ?_⟩)
  · obtain ⟨d, axs, i, rfl, _⟩ := h
    rfl
  · obtain ⟨d, axs, i, rfl, hD, o⟩ := h
    obtain ⟨dx, l0, us, h1, h2, h3⟩ := hD.ex
    have few := hD.few
    have hul : us.length = axs.length := h3.length.symm
    refine ⟨_, rfl, _, rfl, d, A.d, dx, _, _, rfl, h1, T.cl_d, T.n_d_axioms, dF_axioms, l0, _, rfl, .inl (SqL.of h2), _, _, rfl, rfl, ?_⟩
    refine ⟨_, -2, rfl, fun hb => ?_, fun hb => ?_⟩
    rotate_left
    · have hb' : decide ((i : Int) < ((us.length : Nat) : Int)) = false := hb
      rw [ltI] at hb'
      have hb2 := of_decide_eq_false hb'
      exact (o.is (h := ⟨axs⟩) (a := Oc06.ok (-2)) (by show (if axs.length ≤ i then _ else _) = _; rw [if_pos (by omega)])).1 (by decide)
    have hb' : decide ((i : Int) < ((us.length : Nat) : Int)) = true := hb
    rw [ltI] at hb'
    have hi := of_decide_eq_true hb'
    have q := (o.is (h := ⟨axs.take i ++ axs.drop (i + 1)⟩) (a := Oc06.ok (axs.length - 1 : Nat)) (by show (if axs.length ≤ i then _ else _) = _; rw [if_neg (by omega)])).2 (Int.natCast_nonneg _)
    refine ⟨_, rfl, d, A.d, dx, _, _, rfl, h1, T.cl_d, T.n_d_axioms, dF_axioms, _, rfl, _, rfl, l0, us, rfl, SqL.of h2, fun p1 hp1 => ?_⟩
    rw [cut_head (by omega)]
    have s1 : Same H (upd H p1 (.lst (us.take i))) := same_new hp1 _
    refine ⟨_, rfl, d, A.d, dx, _, _, rfl, s1 _ _ h1, T.cl_d, T.n_d_axioms, dF_axioms, _, rfl, _, _, rfl, rfl, _, rfl, l0, us, rfl, SqL.of (s1 _ _ h2), fun p2 hp2 => ?_⟩
    rw [show ((i : Int) + 1) = ((i + 1 : Nat) : Int) from rfl, cut_tail (by omega)]
    have s2 : Same H (upd (upd H p1 (.lst (us.take i))) p2 (.lst (us.drop (i + 1)))) := s1.trans (same_new hp2 _)
    have hp12 : p1 ≠ p2 := ne_of_none upd_same hp2
    refine ⟨p1, p2, us.take i, us.drop (i + 1), rfl, rfl, by rw [upd_ne hp12]; exact upd_same, upd_same, ?_, fun p3 hp3 => ?_⟩
    · rw [List.length_take, List.length_drop]
      exact Nat.le_of_lt (small1000 (by have := Nat.min_le_right i us.length; omega))
    have s3 : Same H (upd (upd (upd H p1 (.lst (us.take i))) p2 (.lst (us.drop (i + 1)))) p3 (.lst (us.take i ++ us.drop (i + 1)))) := s2.trans (same_new hp3 _)
    have hp3l : upd (upd (upd H p1 (.lst (us.take i))) p2 (.lst (us.drop (i + 1)))) p3 (.lst (us.take i ++ us.drop (i + 1))) p3 = some (.lst (us.take i ++ us.drop (i + 1))) := upd_same
    have hp30 : H p3 = none := s2.free hp3
    have e5 := s3 _ _ h1
    refine ⟨_, rfl, d, A.d, dx, _, rfl, e5, T.cl_d, T.n_d_axioms, ins_len (by show 1 ≤ 10; decide), ?_⟩
    rw [dF_2]
    have hpair : Paired (AxAt A (upd (upd (upd H p1 (.lst (us.take i))) p2 (.lst (us.drop (i + 1)))) p3 (.lst (us.take i ++ us.drop (i + 1))))) (axs.take i ++ axs.drop (i + 1)) (us.take i ++ us.drop (i + 1)) :=
      Paired.mapP (paired_append (paired_take i h3) (paired_drop (i + 1) h3)) fun ax v => AxAt.kp (kp_of s3)
    generalize upd (upd (upd H p1 (.lst (us.take i))) p2 (.lst (us.drop (i + 1)))) p3 (.lst (us.take i ++ us.drop (i + 1))) = H5 at *
    have hdp3 : p3 ≠ d := fun z => by rw [z, e5] at hp3l; cases hp3l
    refine ⟨_, rfl, d, A.d, dx, _, _, rfl, upd_same, T.cl_d, T.n_d_axioms, dF_axioms, p3, _, rfl, .inl (SqL.of (by rw [upd_ne hdp3]; exact hp3l)), (by show 1 ≤ sizeLine; decide), fun p4 hp4 => ?_⟩
    have hdp4 : d ≠ p4 := ne_of_none upd_same hp4
    have hp50 : H5 p4 = none := by rw [upd_ne (Ne.symm hdp4)] at hp4; exact hp4
    refine q p4 _ (fun b o e hb => ?_) (s3.free hp50) ?_ ⟨⟨dx, p3, _, by rw [upd_ne hdp4, upd_same], by rw [upd_ne (ne_of_none hp3l hp50), upd_ne hdp3]; exact hp3l, ?_⟩, ?_, ?_⟩
    · have e' := s3 _ _ e
      rw [upd_ne (ne_of_none e' hp50), upd_ne hb]
      exact e'
    · have el : (us.take i ++ us.drop (i + 1)).length = axs.length - 1 := by rw [List.length_append, List.length_take, List.length_drop]; omega
      rw [upd_same, el]
      rfl
    · refine Paired.mapP hpair fun ax v h => ?_
      have h' := AxAt.off (o := .ins A.d dx (dF (.ref p3))) e5 rfl h
      exact h'.kp (kp_of (same_new hp4 _))
    · intro ax hax
      rcases List.mem_append.mp hax with z | z
      · exact hD.good ax (List.mem_of_mem_take z)
      · exact hD.good ax (List.mem_of_mem_drop z)
    · show (axs.take i ++ axs.drop (i + 1)).length ≤ 8
      rw [List.length_append, List.length_take, List.length_drop]; omega
theorem sc_dWords : FnScope ["self", "numbers"] ["self", "numbers"] (defScope sDWords) := ⟨rfl, rfl, rfl, by decide +kernel, rfl, by decide +kernel, by decide +kernel⟩
theorem ok_dWords (T : Txt K mg A) : DefOk P w K mg base (L2.CX P w) 37 A.dWords ["self", "numbers"] (spRow A K .words) := by
  refine T.d_dWords.okX sc_dWords (fun vs H Q E h => ?_) (fun cdv B outer s H vs Q E hr h => ?_)
  · obtain ⟨d, a, axs, ns, rfl, _⟩ := h
    rfl
  have hr3 : Room 3 _ := hr.mono (by omega)
  refine ⟨_, pss_one (ps_ret (pe_op op_cat (pe_lst (pa_cons pe_int pa_nil)) (pe_callTy call_list_of rfl T.z_list (by decide +kernel) (pa_cons (dcall (ok_sig T) hr3 T.g_sig pass0 (pa_cons (dcall (ok_co T) hr T.g_co passD (pa_cons (pv 1) (pa_cons pe_int pa_nil))) pa_nil)) pa_nil)))), ?_⟩
  obtain ⟨d, a, axs, ns, rfl, hD, hS, hlen, o⟩ := h
  refine ⟨(by show 1 ≤ sizeLine; decide), fun p1 hp1 => ?_⟩
  have s0 : Same H (upd H p1 (.lst [.int 0])) := same_new hp1 _
  refine ⟨_, rfl, a, ns, 1, rfl, s0.seq hS, hlen, by omega, fun hbad => ?_, fun cs hcs l H1 vs1 s1' hl0 hl hC => ?_⟩
  · have e : Oc.concept ns = none := by
      cases e : Oc.concept ns with
      | none => rfl
      | some c => exact absurd (one_some e) (hbad _)
    exact ((o.is (h := ⟨axs⟩) (a := Oc06.ok (-1)) (by show (match Oc.concept ns with | none => _ | some a => _) = _; rw [e])).1 (by decide)).same s0
  have s1 := s0.trans s1'
  obtain ⟨c, e, rfl⟩ : ∃ c : C, Oc.concept ns = some c ∧ cs = [c] := by
    have hc := Rs_count hcs
    match cs, hc with
    | [c], _ => exact ⟨c, by rw [concept_eq, hcs], rfl⟩
  have hok : okC c = true ∧ (enc c).length ≤ 30 := by
    obtain ⟨h1, h2⟩ := Rs_is hcs
    refine ⟨h2 _ (by simp), ?_⟩
    have := congrArg List.length h1
    simp at this
    omega
  have q := (o.is (h := ⟨axs⟩) (a := ⟨0, [(Oc06.wordsOf c ⟨0, 0⟩).names, (Oc06.wordsOf c ⟨0, 0⟩).roles]⟩) (by show (match Oc.concept ns with | none => _ | some a => _) = _; rw [e])).2 (Int.le_refl 0)
  refine ⟨l, [c], vs1, rfl, SqL.of hl, hC, by rw [szs_cons, szs_nil]; omega, fun x hx => by rw [List.mem_singleton.mp hx]; exact hok.1, fun t H2 s2 ht0 ht => ?_⟩
  refine ⟨t, _, rfl, .inr (SqT.of ht), fun p2 hp2 => ?_⟩
  have s3 := s1.trans s2
  have s4 : Same H (upd H2 p2 (.lst [vI (bitsP [2] [c]), vI (bitsP [6, 7] [c])])) := same_upd s3 (s3.free hp2) _
  have hp1' : upd H2 p2 (.lst [vI (bitsP [2] [c]), vI (bitsP [6, 7] [c])]) p1 = some (.lst [.int 0]) := (s1'.trans (s2.trans (same_new hp2 _))) _ _ upd_same
  refine ⟨p1, p2, _, _, rfl, rfl, hp1', upd_same, by show 3 ≤ sizeLine; decide, fun p3 hp3 => ?_⟩
  have s5 : Same H (upd (upd H2 p2 (.lst [vI (bitsP [2] [c]), vI (bitsP [6, 7] [c])])) p3 (.lst ([.int 0] ++ [vI (bitsP [2] [c]), vI (bitsP [6, 7] [c])]))) := s4.trans (same_new hp3 _)
  refine q p3 _ (fun b o e _ => s5 _ _ e) (s4.free hp3) ?_ (hD.kp (kp_of s5))
  rw [upd_same, words_one]
  rfl
theorem sc_dQuiet : FnScope ["self", "index", "names", "roles"] ["self", "index", "names", "roles"] (defScope sDQuiet) := ⟨rfl, rfl, rfl, by decide +kernel, rfl, by decide +kernel, by decide +kernel⟩
theorem ok_dQuiet (T : Txt K mg A) : DefOk P w K mg base (L2.CX P w) 44 A.dQuiet ["self", "index", "names", "roles"] (spQuiet A) := by
  refine T.d_dQuiet.okX sc_dQuiet (fun vs H Q E h => ?_) (fun cdv B outer s H vs Q E hr h => ?_)
  · obtain ⟨d, axs, i, n, r, rfl, _⟩ := h
    rfl
  have hr4 : Room 4 _ := hr.mono (by omega)
  have hr3 : Room 3 _ := hr.mono (by omega)
  refine ⟨_, pss_cons (ps_expr (dcall (ok_ask T) hr3 T.g_ask passD (pa_cons (pe_cmpR op_lt (pv 1) (lenE T.z_len (pe_fld (pv 0) rfl)) (nomark _)) (pa_cons (gi T.vNONE_SUCH) pa_nil))))
    (pss_cons (ps_expr (dcall (ok_askS T) hr4 T.g_askS passD (pa_cons (pv 2) (pa_cons (pv 3) pa_nil))))
    (pss_one (ps_ret (pe_lst (pa_cons (pe_callTy call_int1 rfl T.z_int (by decide +kernel) (pa_cons (dmeth (ok_loc (K := K) T) hr T.cl_a T.m_loc pass0 (pe_ix ix_list (pe_fld (pv 0) rfl) (pv 1) (fun _ _ => rfl)) (pa_cons (pv 2) (pa_cons (pv 3) pa_nil))) pa_nil)) pa_nil))))), ?_⟩
  obtain ⟨d, axs, i, n, r, rfl, hD, o⟩ := h
  obtain ⟨dx, l0, us, h1, h2, h3⟩ := hD.ex
  have hul : us.length = axs.length := h3.length.symm
  refine ⟨_, rfl, _, rfl, d, A.d, dx, _, _, rfl, h1, T.cl_d, T.n_d_axioms, dF_axioms, l0, _, rfl, .inl (SqL.of h2), _, _, rfl, rfl, ?_⟩
  refine ⟨_, -2, rfl, fun hb => ?_, fun hb => ?_⟩
  rotate_left
  · have hb' : decide ((i : Int) < ((us.length : Nat) : Int)) = false := hb
    rw [ltI] at hb'
    have hb2 := of_decide_eq_false hb'
    exact (o.is (h := ⟨axs⟩) (a := Oc06.ok (-2)) (by show (match axs[i]? with | none => _ | some a => _) = _; rw [List.getElem?_eq_none (by omega)])).1 (by decide)
  have hb' : decide ((i : Int) < ((us.length : Nat) : Int)) = true := hb
  rw [ltI] at hb'
  have hi := of_decide_eq_true hb'
  have hai : axs[i]? = some (axs[i]'(by omega)) := List.getElem?_eq_getElem (by omega)
  refine ⟨_, rfl, _, rfl, n, r, rfl, fun hw => ?_, fun hw => ?_⟩
  rotate_left
  · exact (o.is (h := ⟨axs⟩) (a := Oc06.ok (-1)) (by show (match axs[i]? with | none => _ | some a => _) = _; rw [hai]; show (if Oc06.isWords n r = false then _ else _) = _; rw [if_pos hw])).1 (by decide)
  have q := (o.is (h := ⟨axs⟩) (a := Oc06.ok (Oc06.flag (Oc06.quiet ⟨n, r⟩ (axs[i]'(by omega))) : Nat)) (by show (match axs[i]? with | none => _ | some a => _) = _; rw [hai]; show (if Oc06.isWords n r = false then _ else _) = _; rw [if_neg (by rw [hw]; simp)])).2 (Int.natCast_nonneg _)
  obtain ⟨y, hy⟩ : ∃ y, us[i]? = some y := ⟨us[i], List.getElem?_eq_getElem hi⟩
  obtain ⟨ax, hax, hAx⟩ := paired_at h3 hy
  rw [hai] at hax
  cases hax
  obtain ⟨aa, adx, pl, fr, st, rfl, a1, a2, a3, a4⟩ := hAx.ex
  refine ⟨_, rfl, d, A.d, dx, _, _, rfl, h1, T.cl_d, T.n_d_axioms, dF_axioms, _, rfl, l0, us, _, _, rfl, rfl, SqL.of h2, atI_nat hy, aa, adx, _, rfl, a1, aF_loc, _, rfl, _, rfl, .ref aa, ⟨n, r⟩, _, rfl, hAx, hD.good _ (List.mem_of_getElem? hai), fun H1 s1 => ?_⟩
  refine .inr ⟨_, rfl, (by show 1 ≤ sizeLine; decide), fun p hp => ?_⟩
  have s2 : Same H (upd H1 p (.lst [.int (if Oc06.quiet ⟨n, r⟩ (axs[i]'(by omega)) = true then 1 else 0)])) := same_upd s1 (s1.free hp) _
  refine q p _ (fun b o e _ => s2 _ _ e) (s1.free hp) ?_ (hD.kp (kp_of s2))
  rw [upd_same]
  cases Oc06.quiet ⟨n, r⟩ (axs[i]'(by omega)) <;> rfl
end
end Ax

namespace Ax
open PySem PySem.Spec PyProof.Rows L2
open Oc (C Axiom holds)
section
variable {P : Program} {w : World} {K : PySem.W.Frag} {mg : Str → Option Value} {base : Heap} {A : Ad}
theorem sc_dPart : FnScope ["self", "names", "roles", "found"] ["self", "names", "roles"] (defScope sDPart) := ⟨rfl, rfl, rfl, by decide +kernel, rfl, by decide +kernel, by decide +kernel⟩
theorem ok_dPart (T : Txt K mg A) : DefOk P w K mg base (L2.CX P w) 45 A.dPart ["self", "names", "roles"] (spPart A) := by
  refine T.d_dPart.okX sc_dPart (fun vs H Q E h => ?_) (fun cdv B outer s H vs Q E hr h => ?_)
  · obtain ⟨d, axs, n, r, rfl, _⟩ := h
    rfl
  have hr4 : Room 4 _ := hr.mono (by omega)
  refine ⟨_, pss_cons (ps_expr (dcall (ok_askS T) hr4 T.g_askS passD (pa_cons (pv 1) (pa_cons (pv 2) pa_nil))))
    (pss_cons (ps_set (i := 3) sc_dPart.nd rfl (.inl rfl) (dcall (ok_mod T) hr T.g_mod pass0 (pa_cons (pe_fld (pv 0) rfl) (pa_cons (pv 1) (pa_cons (pv 2) pa_nil)))))
    (pss_one (ps_ret (pe_op op_cat (pe_lst (pa_cons (lenE T.z_len (pe_fld (pv 3) rfl)) (pa_cons (pe_fld (pv 3) rfl) (pa_cons (pe_fld (pv 3) rfl) pa_nil)))) (pe_fld (pv 3) rfl))))), ?_⟩
  obtain ⟨d, axs, n, r, rfl, hD, o⟩ := h
  obtain ⟨dx, l0, us, h1, h2, h3⟩ := hD.ex
  refine ⟨_, rfl, _, rfl, n, r, rfl, fun hw => ?_, fun hw => ?_⟩
  rotate_left
  · exact (o.is (h := ⟨axs⟩) (a := Oc06.ok (-1)) (by show (if Oc06.isWords n r = false then _ else _) = _; rw [if_pos hw])).1 (by decide)
  have q := (o.is (h := ⟨axs⟩) (a := ⟨((Oc06.part axs ⟨n, r⟩).1.length : Nat), [(Oc06.part axs ⟨n, r⟩).2.names, (Oc06.part axs ⟨n, r⟩).2.roles] ++ (Oc06.part axs ⟨n, r⟩).1⟩) (by show (if Oc06.isWords n r = false then _ else _) = _; rw [if_neg (by rw [hw]; simp)])).2 (Int.natCast_nonneg _)
  refine ⟨_, rfl, d, A.d, dx, _, _, rfl, h1, T.cl_d, T.n_d_axioms, dF_axioms, _, rfl, _, rfl, l0, us, axs, ⟨n, r⟩, rfl, SqL.of h2, h3, hD.good, hD.few, fun m H1 s1 hm0 hM => ?_⟩
  obtain ⟨mx, lc, m1, m2⟩ := hM.ex
  have hpl := part_len axs ⟨n, r⟩
  have few := hD.few
  refine ⟨_, rfl, m, A.m, mx, _, _, rfl, m1, T.cl_m, T.n_m_chosen, mF_chosen, lc, _, rfl, .inl (SqL.of m2), ?_⟩
  refine ⟨_, rfl, m, A.m, mx, _, _, rfl, m1, T.cl_m, T.n_m_names, mF_names, _, rfl, m, A.m, mx, _, _, rfl, m1, T.cl_m, T.n_m_roles, mF_roles, (by show 3 ≤ sizeLine; decide), fun p1 hp1 => ?_⟩
  have hmp1 : m ≠ p1 := ne_of_none m1 hp1
  have hlp1 : lc ≠ p1 := ne_of_none m2 hp1
  refine ⟨_, rfl, m, A.m, mx, _, _, rfl, by rw [upd_ne hmp1]; exact m1, T.cl_m, T.n_m_chosen, mF_chosen, p1, lc, _, _, rfl, rfl, upd_same, by rw [upd_ne hlp1]; exact m2, ?_, fun p2 hp2 => ?_⟩
  · exact Nat.le_of_lt (small1000 (by show 3 + ((Oc06.part axs ⟨n, r⟩).1.map vI).length ≤ 1000; rw [List.length_map]; omega))
  have s2 := same_upd s1 (s1.free hp1) (.lst [.int (((Oc06.part axs ⟨n, r⟩).1.map vI).length : Nat), vI (Oc06.part axs ⟨n, r⟩).2.names, vI (Oc06.part axs ⟨n, r⟩).2.roles])
  have s3 := same_upd s2 (s2.free hp2) (.lst ([.int (((Oc06.part axs ⟨n, r⟩).1.map vI).length : Nat), vI (Oc06.part axs ⟨n, r⟩).2.names, vI (Oc06.part axs ⟨n, r⟩).2.roles] ++ (Oc06.part axs ⟨n, r⟩).1.map vI))
  refine q p2 _ (fun b o e _ => s3 _ _ e) (s2.free hp2) ?_ (hD.kp (kp_of s3))
  rw [upd_same, List.length_map, vI_map]
  simp [vI]
theorem sc_dCh : FnScope ["self", "concepts", "names", "roles"] ["self", "concepts"] (defScope sDCh) := ⟨rfl, rfl, rfl, by decide +kernel, rfl, by decide +kernel, by decide +kernel⟩
theorem ok_dCh (T : Txt K mg A) : DefOk P w K mg base CX0 45 A.dCh ["self", "concepts"] (spCh A K) := by
  refine T.d_dCh.ok sc_dCh (fun vs H Q E h => ?_) (fun cdv B outer s H vs Q E hr h => ?_)
  · obtain ⟨d, a, axs, c, us, rfl, _⟩ := h
    rfl
  have hr3 : Room 3 _ := hr.mono (by omega)
  refine ⟨_, pss_cons (ps_asg (dcall (ok_sig T) hr3 T.g_sig pass0 (pa_cons (pv 1) pa_nil)) (pg_tup rfl (pgs_cons (pg_name (i := 2) sc_dCh.nd rfl (.inl rfl)) (pgs_cons (pg_name (i := 3) sc_dCh.nd rfl (.inl rfl)) pgs_nil))))
    (pss_one (ps_ret (pe_fld (dcall (ok_mod T) hr T.g_mod pass0 (pa_cons (pe_fld (pv 0) rfl) (pa_cons (pv 2) (pa_cons (pv 3) pa_nil)))) rfl))), ?_⟩
  obtain ⟨d, a, axs, c, vs1, rfl, hD, hS, hC, hlen, ok1, ok2, q⟩ := h
  obtain ⟨dx, l0, us, h1, h2, h3⟩ := hD.ex
  refine ⟨_, rfl, a, [c.1, c.2], vs1, rfl, hS, hC, by rw [szs_cons, szs_cons, szs_nil]; omega, fun x hx => ?_, fun t H1 s1 ht0 ht => ?_⟩
  · rcases List.mem_cons.mp hx with e | hx
    · rw [e]; exact ok1
    · rw [List.mem_singleton.mp hx]; exact ok2
  refine ⟨t, _, rfl, SqT.of ht, rfl, _, _, rfl, _, _, rfl, rfl, ?_⟩
  have ew : Oc06.ofAxiom c ⟨0, 0⟩ = ⟨bitsP [2] [c.1, c.2], bitsP [6, 7] [c.1, c.2]⟩ := by rw [ofAxiom_bits, Nat.zero_or, Nat.zero_or]
  refine ⟨_, rfl, d, A.d, dx, _, _, rfl, s1 _ _ h1, T.cl_d, T.n_d_axioms, dF_axioms, _, rfl, _, rfl, l0, us, axs, ⟨bitsP [2] [c.1, c.2], bitsP [6, 7] [c.1, c.2]⟩, rfl, SqL.of (s1 _ _ h2), Paired.mapP h3 fun ax v => AxAt.kp (kp_of s1), hD.good, hD.few, fun m H2 s2 hm0 hM => ?_⟩
  obtain ⟨mx, lc, m1, m2⟩ := hM.ex
  refine ⟨m, A.m, mx, _, _, rfl, m1, T.cl_m, T.n_m_chosen, mF_chosen, ?_⟩
  rw [← ew] at m2
  exact q lc H2 (s1.trans s2) m2
theorem sc_dBy : FnScope ["self", "numbers", "found"] ["self", "numbers"] (defScope sDBy) := ⟨rfl, rfl, rfl, by decide +kernel, rfl, by decide +kernel, by decide +kernel⟩
theorem ok_dBy (T : Txt K mg A) : DefOk P w K mg base (L2.CX P w) 46 A.dBy ["self", "numbers"] (spRow A K .by_) := by
  refine T.d_dBy.okX sc_dBy (fun vs H Q E h => ?_) (fun cdv B outer s H vs Q E hr h => ?_)
  · obtain ⟨d, a, axs, ns, rfl, _⟩ := h
    rfl
  have hr36 : Room 36 _ := hr.mono (by omega)
  refine ⟨_, pss_cons (ps_set (i := 2) sc_dBy.nd rfl (.inl rfl) (dmeth (ok_dCh (K := K) T) hr T.cl_d T.m_dCh pass0 (pv 0) (pa_cons (dcall (ok_co T) hr36 T.g_co passD (pa_cons (pv 1) (pa_cons pe_int pa_nil))) pa_nil)))
    (pss_one (ps_ret (pe_op op_cat (pe_lst (pa_cons (lenE T.z_len (pv 2)) pa_nil)) (pv 2)))), ?_⟩
  obtain ⟨d, a, axs, ns, rfl, hD, hS, hlen, o⟩ := h
  obtain ⟨dx, l0, us, h1, h2, h3⟩ := hD.ex
  refine ⟨_, rfl, d, dx, _, rfl, h1, dF_ch, _, rfl, a, ns, 2, rfl, hS, hlen, Nat.le_refl 2, fun hbad => ?_, fun cs hcs l H1 vs1 s1 hl0 hl hC => ?_⟩
  · have e : Oc.two ns = none := by
      cases e : Oc.two ns with
      | none => rfl
      | some c => exact absurd (two_some e) (hbad _)
    exact (o.is (h := ⟨axs⟩) (a := Oc06.ok (-1)) (by show (match Oc.two ns with | none => _ | some a => _) = _; rw [e])).1 (by decide)
  obtain ⟨c, e, rfl⟩ : ∃ c : C × C, Oc.two ns = some c ∧ cs = [c.1, c.2] := by
    have hc := Rs_count hcs
    match cs, hc with
    | [c, d'], _ => exact ⟨(c, d'), by rw [two_eq, hcs], rfl⟩
  obtain ⟨n1, n2, n3⟩ := two_len e
  have q := (o.is (h := ⟨axs⟩) (a := ⟨((Oc06.part axs (Oc06.ofAxiom c ⟨0, 0⟩)).1.length : Nat), (Oc06.part axs (Oc06.ofAxiom c ⟨0, 0⟩)).1⟩) (by show (match Oc.two ns with | none => _ | some a => _) = _; rw [e])).2 (Int.natCast_nonneg _)
  have hpl := part_len axs (Oc06.ofAxiom c ⟨0, 0⟩)
  have few := hD.few
  refine ⟨d, l, axs, c, vs1, rfl, hD.kp (kp_of s1), SqL.of hl, hC, by omega, n2, n3, fun p H2 s2 hp => ?_⟩
  have s12 := s1.trans s2
  refine ⟨_, rfl, p, _, rfl, .inl (SqL.of hp), (by show 1 ≤ sizeLine; decide), fun p1 hp1 => ?_⟩
  have hpp1 : p ≠ p1 := ne_of_none hp hp1
  refine ⟨_, rfl, p1, p, _, _, rfl, rfl, upd_same, by rw [upd_ne hpp1]; exact hp, ?_, fun p2 hp2 => ?_⟩
  · exact Nat.le_of_lt (small1000 (by show 1 + ((Oc06.part axs (Oc06.ofAxiom c ⟨0, 0⟩)).1.map vI).length ≤ 1000; rw [List.length_map]; omega))
  have s3 := same_upd s12 (s12.free hp1) (.lst [.int (((Oc06.part axs (Oc06.ofAxiom c ⟨0, 0⟩)).1.map vI).length : Nat)])
  have s4 := same_upd s3 (s3.free hp2) (.lst ([.int (((Oc06.part axs (Oc06.ofAxiom c ⟨0, 0⟩)).1.map vI).length : Nat)] ++ (Oc06.part axs (Oc06.ofAxiom c ⟨0, 0⟩)).1.map vI))
  refine q p2 _ (fun b o e _ => s4 _ _ e) (s3.free hp2) ?_ (hD.kp (kp_of s4))
  rw [upd_same, List.length_map, vI_map]
  simp
theorem sc_dTell : FnScope ["self", "found", "name", "chosen"] ["self"] (defScope sDTell) := ⟨rfl, rfl, rfl, by decide +kernel, rfl, by decide +kernel, by decide +kernel⟩
def tellL (axs : List Axiom) (l : List Nat) : List Nat := l.flatMap fun a => (Oc06.part axs ⟨2 ^ a, 0⟩).1.length :: (Oc06.part axs ⟨2 ^ a, 0⟩).1
theorem tell_len (axs : List Axiom) (h : axs.length ≤ 8) : ∀ l : List Nat, (tellL axs l).length ≤ 9 * l.length
  | [] => Nat.le_refl _
  | a :: l => by
    have ih := tell_len axs h l
    have h1 := part_len axs ⟨2 ^ a, 0⟩
    unfold tellL at ih ⊢
    rw [List.flatMap_cons, List.length_append, List.length_cons, List.length_cons]
    omega
theorem ok_dTell (T : Txt K mg A) : DefOk P w K mg base (L2.CX P w) 45 A.dTell ["self"] (spTell A) := by
  refine T.d_dTell.okX sc_dTell (fun vs H Q E h => ?_) (fun cdv B outer s H vs Q E hr h => ⟨_, pss_cons (ps_set (i := 1) sc_dTell.nd rfl (.inl rfl) (pe_lst (pa_cons (gi T.vMANY_NAMES) pa_nil)))
    (pss_cons (ps_for (passes_of rfl) rfl (pi_range1 rfl T.z_range (pa_cons (gi T.vMANY_NAMES) pa_nil)) (pg_name (i := 2) sc_dTell.nd rfl (.inl rfl))
      (pss_cons (ps_set (i := 3) sc_dTell.nd rfl (.inl rfl) (pe_fld (dcall (ok_mod T) hr T.g_mod pass0 (pa_cons (pe_fld (pv 0) rfl) (pa_cons (pe_op op_shl pe_int (pv 2)) (pa_cons pe_int pa_nil)))) rfl))
      (pss_one (ps_expr (pe_bm PySem.F.plainAttrs_list PySem.F.slot_list_extend PySem.F.type_list_extend mt_extend (pv 1) (pa_cons (pe_op op_cat (pe_lst (pa_cons (lenE T.z_len (pv 3)) pa_nil)) (pv 3)) pa_nil))))))
    (pss_one (ps_ret (pv 1)))), ?_⟩)
  · obtain ⟨d, axs, rfl, _⟩ := h
    rfl
  · obtain ⟨d, axs, rfl, hD, o⟩ := h
    obtain ⟨dx, l0, us, h1, h2, h3⟩ := hD.ex
    have few := hD.few
    have q := (o.is (h := ⟨axs⟩) (a := ⟨4, tellL axs (List.range 4)⟩) rfl).2 (show (0 : Int) ≤ 4 by decide)
    refine ⟨(by show 1 ≤ sizeLine; decide), fun f hf => ?_⟩
    refine ⟨4, rfl, by decide, by decide, ?_⟩
    refine for_range (lo := 0) (n := (4 : Int).toNat) (fun i σ H' => ∃ (v2 v3 : Option V), σ = [some (.ref d), some (.ref f), v2, v3] ∧ Same H H' ∧ H' f = some (.lst (.int 4 :: (tellL axs (List.range i)).map vI))) ?_ ?_ ?_
    · exact ⟨none, none, rfl, same_new hf _, upd_same⟩
    · rintro i σ H' hi ⟨v2, v3, rfl, s1, k1⟩
      have hi4 : i < 4 := hi
      have e0 : V.int ((0 : Int) + (i : Int)) = vI i := congrArg V.int (Int.zero_add _)
      rw [e0]
      refine ⟨_, rfl, d, A.d, dx, _, _, rfl, s1 _ _ h1, T.cl_d, T.n_d_axioms, dF_axioms, _, rfl, _, _, rfl, rfl, ⟨by omega, by omega, by decide⟩, l0, us, axs, ⟨2 ^ i, 0⟩, ?_, SqL.of (s1 _ _ h2), Paired.mapP h3 fun ax v => AxAt.kp (kp_of s1), hD.good, hD.few, fun m H2 s2 hm0 hM => ?_⟩
      · rw [← shl_one]
        rfl
      obtain ⟨mx, lc, m1, m2⟩ := hM.ex
      have hpl := part_len axs ⟨2 ^ i, 0⟩
      refine ⟨m, A.m, mx, _, _, rfl, m1, T.cl_m, T.n_m_chosen, mF_chosen, ?_⟩
      have k2 := s2 _ _ k1
      refine ⟨_, rfl, .inl ⟨rfl, _, SqL.of k2⟩, _, rfl, lc, _, rfl, .inl (SqL.of m2), (by show 1 ≤ sizeLine; decide), fun p1 hp1 => ?_⟩
      have hlp1 : lc ≠ p1 := ne_of_none m2 hp1
      have hfp1 : f ≠ p1 := ne_of_none k2 hp1
      refine ⟨_, rfl, p1, lc, _, _, rfl, rfl, upd_same, by rw [upd_ne hlp1]; exact m2, ?_, fun p2 hp2 => ?_⟩
      · exact Nat.le_of_lt (small1000 (by show 1 + ((Oc06.part axs ⟨2 ^ i, 0⟩).1.map vI).length ≤ 1000; rw [List.length_map]; omega))
      have hfp2 : f ≠ p2 := fun z => by rw [← z, upd_ne hfp1, k2] at hp2; cases hp2
      have s12 := s1.trans s2
      have s3 := same_upd s12 (s12.free hp1) (.lst [.int (((Oc06.part axs ⟨2 ^ i, 0⟩).1.map vI).length : Nat)])
      have s4 := same_upd s3 (s3.free hp2) (.lst ([.int (((Oc06.part axs ⟨2 ^ i, 0⟩).1.map vI).length : Nat)] ++ (Oc06.part axs ⟨2 ^ i, 0⟩).1.map vI))
      have tl := tell_len axs few (List.range i)
      rw [List.length_range] at tl
      refine ⟨f, p2, _, _, rfl, rfl, by rw [upd_ne hfp2, upd_ne hfp1]; exact k2, upd_same, ?_, _, some (.ref lc), rfl, same_upd s4 hf _, ?_⟩
      · refine Nat.le_of_lt (small1000 ?_)
        rw [List.length_cons, List.length_map, List.length_append, List.length_singleton, List.length_map]
        omega
      · have et : tellL axs (List.range i ++ [i]) = tellL axs (List.range i) ++ ((Oc06.part axs ⟨2 ^ i, 0⟩).1.length :: (Oc06.part axs ⟨2 ^ i, 0⟩).1) := by
          unfold tellL
          rw [List.flatMap_append]
          simp
        rw [upd_same, List.range_succ, et, List.map_append, List.length_map]
        rfl
    · rintro σ H' ⟨v2, v3, rfl, s1, k1⟩
      refine ⟨_, rfl, q f H' (fun b o e _ => s1 _ _ e) hf ?_ (hD.kp (kp_of s1))⟩
      rw [k1, List.map_cons, List.map_map]
      rfl
end
end Ax

namespace Ax
open PySem PySem.Spec PyProof.Rows L2
open Oc (C Axiom holds)
def pairL (p : List Axiom) : List C := p.flatMap fun a => [a.1, a.2]
theorem some_take {axs : List Axiom} {l : List Nat} {j i : Nat} {a : Axiom} (h : l[j]? = some i) (ha : axs[i]? = some a) : Oc06.some_ axs (l.take (j + 1)) = Oc06.some_ axs (l.take j) ++ [a] := by
  unfold Oc06.some_
  rw [take_snoc h, List.filterMap_append]
  simp [ha]
theorem pairL_take {p : List Axiom} {j : Nat} {a : Axiom} (h : p[j]? = some a) : pairL (p.take (j + 1)) = pairL (p.take j) ++ [a.1, a.2] := by
  unfold pairL
  rw [take_snoc h, List.flatMap_append]
  simp
theorem mem_some {axs : List Axiom} {l : List Nat} {a : Axiom} (h : a ∈ Oc06.some_ axs l) : a ∈ axs := by
  unfold Oc06.some_ at h
  obtain ⟨i, _, e⟩ := List.mem_filterMap.mp h
  exact List.mem_of_getElem? e
theorem some_len (axs : List Axiom) (l : List Nat) : (Oc06.some_ axs l).length ≤ l.length := List.length_filterMap_le _ _
theorem szs_pairL : ∀ (p : List Axiom), (∀ a ∈ p, GoodAx a) → szs (pairL p) ≤ 30 * p.length
  | [], _ => Nat.le_refl _
  | a :: p, h => by
    have ih := szs_pairL p fun x hx => h x (List.mem_cons_of_mem _ hx)
    have h1 := (h a List.mem_cons_self).szs
    show szs ([a.1, a.2] ++ pairL p) ≤ 30 * (p.length + 1)
    rw [szs_append]
    omega
theorem mem_pairL {p : List Axiom} {c : C} : c ∈ pairL p ↔ ∃ a ∈ p, c = a.1 ∨ c = a.2 := by
  unfold pairL
  rw [List.mem_flatMap]
  simp
theorem part_lt {axs : List Axiom} {wd : Oc06.Words} {i : Nat} (h : i ∈ (Oc06.part axs wd).1) : i < axs.length := by
  rw [part_eq] at h
  exact List.mem_range.mp (List.mem_filter.mp h).1
section
variable {P : Program} {w : World} {K : PySem.W.Frag} {mg : Str → Option Value} {base : Heap} {A : Ad}
abbrev N_dUnd : List Str := ["self", "numbers", "concepts", "pairs", "every", "pair", "frame", "number"]
theorem sc_dUnd : FnScope N_dUnd ["self", "numbers"] (defScope sDUnd) := ⟨rfl, rfl, rfl, by decide +kernel, rfl, by decide +kernel, by decide +kernel⟩
theorem ok_dUnd (T : Txt K mg A) : DefOk P w K mg base (L2.CX P w) 46 A.dUnd ["self", "numbers"] (spRow A K .under) := by
  refine T.d_dUnd.okX sc_dUnd (fun vs H Q E h => ?_) (fun cdv B outer s H vs Q E hr h => ?_)
  · obtain ⟨d, a, axs, ns, rfl, _⟩ := h
    rfl
  have hr36 : Room 36 _ := hr.mono (by omega)
  have hr3 : Room 3 _ := hr.mono (by omega)
  have hr2 : Room 2 _ := hr.mono (by omega)
  have hr42 : Room 42 _ := hr.mono (by omega)
  have hr44 : Room 44 _ := hr.mono (by omega)
  refine ⟨_, pss_cons (ps_set (i := 2) sc_dUnd.nd rfl (.inl rfl) (dcall (ok_co T) hr36 T.g_co passD (pa_cons (pv 1) (pa_cons pe_int pa_nil))))
    (pss_cons (ps_setLc (i := 3) (own := [("number", 7)]) (g := gName 7) (tt := tYes) (te := tFld K (tOp (rIxL K) (tFld K (tVar 0) "axioms") (tVar 7)) "pair") rfl sc_dUnd.nd rfl rfl (sw_true rfl rfl rfl (by decide +kernel)) (pi_list (dmeth (ok_dCh (K := K) T) hr T.cl_d T.m_dCh pass0 (pv 0) (pa_cons (pv 2) pa_nil))) (blkOk_by (N := N_dUnd) (sc := defScope sDUnd) (by decide +kernel))
        (fun _ _ _ _ _ => pg_name (i := 7) sc_dUnd.nd rfl (Or.inl rfl)) (fun _ _ _ _ _ => pts_nil) (fun _ _ _ _ _ => pe_fld (pe_ix ix_list (pe_fld (pv 0) rfl) (pv 7) (fun _ _ => rfl)) rfl))
    (pss_cons (ps_set (i := 4) sc_dUnd.nd rfl (.inl rfl) (pe_callTy call_list_of rfl T.z_list (by decide +kernel) (pa_cons (pv 2) pa_nil)))
    (pss_cons (ps_for (passes_of rfl) rfl (pi_list (pv 3)) (pg_name (i := 5) sc_dUnd.nd rfl (.inl rfl))
      (pss_one (ps_expr (pe_bm PySem.F.plainAttrs_list PySem.F.slot_list_extend PySem.F.type_list_extend mt_extend (pv 4) (pa_cons (pv 5) pa_nil)))))
    (pss_cons (ps_expr (dcall (ok_ask T) hr3 T.g_ask passD (pa_cons (pe_cmpR op_le (lenE T.z_len (dcall (ok_atoms T) hr2 T.g_atoms pass0 (pa_cons (pv 4) pa_nil))) (gi T.vMOST_ATOMS_ASKED) (nomark _)) (pa_cons (gi T.vTOO_MANY) pa_nil))))
    (pss_cons (ps_set (i := 6) sc_dUnd.nd rfl (.inl rfl) (dmake T.mk_f (ok_fI T) hr44 T.g_f pass0 (pa_cons (pv 4) pa_nil)))
    (pss_one (ps_ret (pe_lst (pa_cons (pe_callTy call_int1 rfl T.z_int (by decide +kernel) (pa_cons (dmeth (ok_und (K := K) T) hr42 T.cl_f T.m_und pass0 (pv 6) (pa_cons (pe_ix ix_list (pv 2) pe_int (fun _ _ => rfl)) (pa_cons (pe_ix ix_list (pv 2) pe_int (fun _ _ => rfl))
      (pa_cons (dmeth (ok_keep (K := K) T) hr42 T.cl_f T.m_keep pass0 (pv 6) (pa_cons (pv 3) pa_nil)) pa_nil)))) pa_nil)) pa_nil))))))))), ?_⟩
  obtain ⟨d, a, axs, ns, rfl, hD, hS, hlen, o⟩ := h
  obtain ⟨dx, l0, us, h1, h2, h3⟩ := hD.ex
  refine ⟨_, rfl, a, ns, 2, rfl, hS, hlen, Nat.le_refl 2, fun hbad => ?_, fun cs hcs l H1 vs1 s1 hl0 hl hC => ?_⟩
  · have e : Oc.two ns = none := by
      cases e : Oc.two ns with
      | none => rfl
      | some c => exact absurd (two_some e) (hbad _)
    exact (o.is (h := ⟨axs⟩) (a := Oc06.ok (-1)) (by show (match Oc.two ns with | none => _ | some a => _) = _; rw [e])).1 (by decide)
  obtain ⟨c, e, rfl⟩ : ∃ c : C × C, Oc.two ns = some c ∧ cs = [c.1, c.2] := by
    have hc := Rs_count hcs
    match cs, hc with
    | [c, d'], _ => exact ⟨(c, d'), by rw [two_eq, hcs], rfl⟩
  obtain ⟨n1, n2, n3⟩ := two_len e
  match vs1, hC with
  | [vc, vd], .cons hcC (.cons hcD .nil) =>
  have few := hD.few
  have hC2 : CsAt A.c H1 [c.1, c.2] [vc, vd] := .cons hcC (.cons hcD .nil)
  have hD1 := hD.kp (kp_of s1)
  -- the module
  refine ⟨_, rfl, d, dx, _, rfl, s1 _ _ h1, dF_ch, _, rfl, d, l, axs, c, [vc, vd], rfl, hD1, SqL.of hl, hC2, by omega, n2, n3, fun pm H2 s2 hpm => ?_⟩
  have hpl := part_len axs (Oc06.ofAxiom c ⟨0, 0⟩)
  have hplt : ∀ i ∈ (Oc06.part axs (Oc06.ofAxiom c ⟨0, 0⟩)).1, i < axs.length := fun i hi => part_lt hi
  have q0 := o.is (h := (Oc06.step ⟨axs⟩ (.under ns)).1) (a := (Oc06.step ⟨axs⟩ (.under ns)).2) rfl
  have estep : Oc06.step ⟨axs⟩ (.under ns) = if Oc06.much (Oc06.some_ axs (Oc06.part axs (Oc06.ofAxiom c ⟨0, 0⟩)).1) [c.1, c.2] = true then (⟨axs⟩, Oc06.ok (-7)) else (⟨axs⟩, Oc06.ok (Oc06.flag (Oc.under (Oc06.some_ axs (Oc06.part axs (Oc06.ofAxiom c ⟨0, 0⟩)).1) c.1 c.2) : Nat)) := by
    show (match Oc.two ns with | none => _ | some a => _) = _
    rw [e]
  generalize (Oc06.part axs (Oc06.ofAxiom c ⟨0, 0⟩)).1 = L at *
  refine ⟨pm, rfl, ⟨_, SqL.of hpm⟩, fun D hDn => ?_⟩
  have s12 := s1.trans s2
  refine lc_list (K := K) (a := pm) (xs := L.map vI) (fun j H3 => Same H2 H3 ∧ ∃ prs, H3 D = some (.lst prs) ∧ Paired (PrAt A H2) (Oc06.some_ axs (L.take j)) prs) ?_ ?_ ?_ ?_
  · exact ⟨same_new hDn _, [], upd_same, .nil⟩
  · rintro j H3 _ ⟨m1, _⟩
    exact SqL.of (m1 _ _ hpm)
  · rintro j x H3 hx ⟨m1, prs, m2, m3⟩
    obtain ⟨i, hi, rfl⟩ := vI_at hx
    have hil := hplt i (List.mem_of_getElem? hi)
    have hai : axs[i]? = some axs[i] := List.getElem?_eq_getElem hil
    have hul : us.length = axs.length := h3.length.symm
    obtain ⟨y, hy⟩ : ∃ y, us[i]? = some y := ⟨us[i]'(by omega), List.getElem?_eq_getElem (by omega)⟩
    obtain ⟨ax, hax, hAx⟩ := paired_at h3 hy
    rw [hai] at hax
    cases hax
    have sH3 := s12.trans m1
    obtain ⟨aa, adx, pl, fr, st, rfl, a1, a2, a3, a4⟩ := (hAx.kp (kp_of s12)).ex
    refine ⟨rfl, _, rfl, d, A.d, dx, _, _, rfl, sH3 _ _ h1, T.cl_d, T.n_d_axioms, dF_axioms, _, rfl, l0, us, _, _, rfl, rfl, SqL.of (sH3 _ _ h2), atI_nat hy, aa, A.a, adx, _, _, rfl, m1 _ _ a1, T.cl_a, T.n_a_pair, aF_pair, ?_⟩
    refine ⟨prs, m2, ?_, same_upd m1 hDn _, prs ++ [.ref pl], upd_same, ?_⟩
    · have z1 := m3.length
      have z2 := some_len axs (L.take j)
      rw [List.length_take] at z2
      exact small1000 (by have := Nat.min_le_right j L.length; omega)
    · rw [some_take hi hai]
      exact Paired.snoc m3 a2
  rintro H3 ⟨m1, prs, m2, m3⟩
  rw [List.length_map, List.take_length] at m3
  have hpg : ∀ x ∈ Oc06.some_ axs L, GoodAx x := fun x hx => hD.good x (mem_some hx)
  have hpn : (Oc06.some_ axs L).length ≤ 8 := by have := some_len axs L; omega
  generalize Oc06.some_ axs L = p at *
  have s3 := s12.trans m1
  -- every
  have hl3 : H3 l = some (.lst [vc, vd]) := m1 _ _ (s2 _ _ hl)
  refine ⟨_, rfl, l, _, rfl, .inl (SqL.of hl3), fun ev hev => ?_⟩
  have hDev : D ≠ ev := ne_of_none m2 hev
  refine ⟨_, rfl, D, rfl, ⟨_, SqL.of (by rw [upd_ne hDev]; exact m2)⟩, ?_⟩
  have hC3 : CsAt A.c H3 [c.1, c.2] [vc, vd] := hC2.kp (kp_of (s2.trans m1))
  have hP3 : Paired (PrAt A H3) p prs := Paired.mapP m3 fun ax v => PrAt.kp (kp_of m1)
  have hpz : szs (pairL p) ≤ 240 := by have := szs_pairL p hpg; omega
  refine for_list (K := K) (a := D) (xs := prs) (fun j σ H4 => ∃ (v5 : Option V) (evs : List V), σ = [some (.ref d), some (.ref a), some (.ref l), some (.ref D), some (.ref ev), v5, none, none] ∧ Same H3 H4 ∧ H4 ev = some (.lst evs) ∧ CsAt A.c H3 ([c.1, c.2] ++ pairL (p.take j)) evs) ?_ ?_ ?_ ?_
  · exact ⟨none, [vc, vd], rfl, same_new hev _, upd_same, hC3⟩
  · rintro j σ H4 _ ⟨v5, evs, rfl, k1, _⟩
    exact SqL.of (k1 _ _ m2)
  · rintro j x σ H4 hx ⟨v5, evs, rfl, k1, k2, k3⟩
    obtain ⟨ax, hax, hpr⟩ := paired_at hP3 hx
    obtain ⟨pl, v1, v2, rfl, p1, p2, p3⟩ := hpr.ex
    refine ⟨_, rfl, .inl ⟨rfl, _, SqL.of k2⟩, _, rfl, ev, pl, evs, _, rfl, rfl, k2, k1 _ _ p1, ?_, some (.ref pl), evs ++ [v1, v2], rfl, same_upd k1 hev _, upd_same, ?_⟩
    · have z1 := k3.length
      have z2 := len_szs ([c.1, c.2] ++ pairL (p.take j))
      rw [szs_append, szs_cons, szs_cons, szs_nil] at z2
      have z3 : szs (pairL (p.take j)) ≤ 240 := by
        have := szs_pairL (p.take j) fun x hx => hpg x (List.mem_of_mem_take hx)
        rw [List.length_take] at this
        have := Nat.min_le_right j p.length
        omega
      exact Nat.le_of_lt (small1000 (by show evs.length + 2 ≤ 1000; omega))
    · rw [pairL_take hax, ← List.append_assoc]
      exact paired_append k3 (.cons p2 (.cons p3 .nil))
  rintro σ H4 ⟨v5, evs, rfl, k1, k2, k3⟩
  rw [take_paired hP3] at k3
  have hes : szs ([c.1, c.2] ++ pairL p) ≤ 270 := by rw [szs_append, szs_cons, szs_cons, szs_nil]; omega
  have hcount : (atomsP ([c.1, c.2] ++ pairL p)).length = (Oc.atomsFor p [c.1, c.2]).length := atomsP_count fun x => by
    constructor
    · rintro ⟨y, hy, hx⟩
      rcases List.mem_append.mp hy with z | z
      · exact ⟨y, List.mem_append_right _ z, hx⟩
      · exact ⟨y, List.mem_append_left _ z, hx⟩
    · rintro ⟨y, hy, hx⟩
      rcases List.mem_append.mp hy with z | z
      · exact ⟨y, List.mem_append_right _ z, hx⟩
      · exact ⟨y, List.mem_append_left _ z, hx⟩
  have hoks : ∀ x ∈ [c.1, c.2] ++ pairL p, okC x = true ∧ (enc x).length ≤ 40 := fun x hx => by
    rcases List.mem_append.mp hx with z | z
    · rcases List.mem_cons.mp z with z | z
      · rw [z]; exact ⟨n2, by omega⟩
      · rw [List.mem_singleton.mp z]; exact ⟨n3, by omega⟩
    · obtain ⟨ax, hax, z⟩ := mem_pairL.mp z
      have g := hpg ax hax
      have gl := g.len
      rcases z with z | z
      · rw [z]; exact ⟨g.ok1, by omega⟩
      · rw [z]; exact ⟨g.ok2, by omega⟩
  have hgood : GoodAt (atomsP ([c.1, c.2] ++ pairL p)) := goodAt_of (fun x hx => (hoks x hx).1) (fun x hx => (hoks x hx).2) (by omega)
  have s4 := s3.trans k1
  -- not too many
  refine ⟨_, rfl, ev, [c.1, c.2] ++ pairL p, evs, H3, rfl, SqL.of k2, k1, k3, by omega, fun al H5 aws s5 hal0 hal haw => ?_⟩
  refine ⟨al, aws, rfl, .inl (SqL.of hal), _, _, rfl, rfl, ?_⟩
  have s5' := s4.trans s5
  have eal : aws.length = (Oc.atomsFor p [c.1, c.2]).length := by rw [← haw.length, hcount]
  refine ⟨_, -7, rfl, fun hb => ?_, fun hb => ?_⟩
  rotate_left
  · have hb' := of_decide_eq_false hb
    have em : Oc06.much p [c.1, c.2] = true := decide_eq_true (by show 6 < (Oc.atomsFor p [c.1, c.2]).length; omega)
    rw [estep, if_pos em] at q0
    exact (q0.1 (show (-7 : Int) < 0 by decide)).same s5'
  have hb' := of_decide_eq_true hb
  have em : ¬ Oc06.much p [c.1, c.2] = true := by
    show ¬ decide (6 < (Oc.atomsFor p [c.1, c.2]).length) = true
    rw [decide_eq_false (by omega)]; simp
  rw [estep, if_neg em] at q0
  have q := q0.2 (Int.natCast_nonneg _)
  have hfew : (atomsP ([c.1, c.2] ++ pairL p)).length ≤ 10 := by omega
  -- the frame
  refine ⟨_, rfl, ?_⟩
  intro x xd nx nd ne
  have ev5 := s5 _ _ k2
  have kG : Same H5 (upd (upd H5 xd (.own x)) x (.ins A.f xd [])) := same_upd (same_new nd _) nx _
  refine ⟨x, xd, ev, [c.1, c.2] ++ pairL p, evs, H5, rfl, upd_same, SqL.of (kG _ _ ev5), kG, nx, k3.kp (kp_of (k1.trans s5)), by omega, hgood, hfew, fun H6 hF k6 => ⟨rfl, ?_⟩⟩
  have s6 : Same H5 H6 := fun b o e => k6 b o (kG b o e) (ne_of_none e nx)
  have sAll := s5'.trans s6
  have s36 : Same H3 H6 := (k1.trans s5).trans s6
  obtain ⟨fx, la, ls, li, ws, f1, f2, f3, f4, f5⟩ := hF.ex
  have hl6 := s36 _ _ hl3
  have hD6 := s36 _ _ m2
  have c1 : Cov (atomsP ([c.1, c.2] ++ pairL p)) c.1 := cov_atomsP (by simp)
  have c2 : Cov (atomsP ([c.1, c.2] ++ pairL p)) c.2 := cov_atomsP (by simp)
  have cax : CovAx (atomsP ([c.1, c.2] ++ pairL p)) p := fun ax hax => ⟨cov_atomsP (List.mem_append_right _ (mem_pairL.mpr ⟨ax, hax, .inl rfl⟩)), cov_atomsP (List.mem_append_right _ (mem_pairL.mpr ⟨ax, hax, .inr rfl⟩))⟩
  refine ⟨_, rfl, x, fx, _, rfl, f1, fF_und, _, rfl, l, _, _, _, rfl, rfl, SqL.of hl6, atI_nat (xs := [vc, vd]) (j := 0) rfl, _, rfl, l, _, _, _, rfl, rfl, SqL.of hl6, atI_nat (xs := [vc, vd]) (j := 1) rfl, ?_⟩
  refine ⟨_, rfl, x, fx, _, rfl, f1, fF_keep, _, rfl, x, D, _, p, prs, rfl, hF, hgood, hfew, SqL.of hD6, Paired.mapP hP3 fun ax v => PrAt.kp (kp_of s36), by omega, fun ax hax => ?_, fun kl H7 s7 hkl0 hkl => ?_⟩
  · have gl := (hpg ax hax).len
    exact ⟨(cax ax hax).1, (cax ax hax).2, by omega, by omega⟩
  have hP : PatAt K H7 kl (atomsP ([c.1, c.2] ++ pairL p)) (tys (atomsP ([c.1, c.2] ++ pairL p)) (Oc.keeps (atomsP ([c.1, c.2] ++ pairL p)) p)) := ⟨SqL.of hkl, filter_lt fun t ht => List.mem_range.mp ht, by
    have z1 := List.length_filter_le (Oc.keeps (atomsP ([c.1, c.2] ++ pairL p)) p) (List.range (2 ^ (atomsP ([c.1, c.2] ++ pairL p)).length))
    rw [List.length_range] at z1
    exact Nat.le_trans z1 (pow_small hfew)⟩
  have s37 := s36.trans s7
  refine ⟨x, kl, vc, vd, c.1, c.2, _, _, rfl, hF.kp (kp_of s7), hgood, hP, CAt.kp (kp_of ((s2.trans m1).trans s37)) _ _ hcC, CAt.kp (kp_of ((s2.trans m1).trans s37)) _ _ hcD, c1, c2, by omega, by omega, fun H8 s8 => ?_⟩
  have ul := under_law (ax := p) (closed_atomsP ([c.1, c.2] ++ pairL p)) cax c1 c2
  unfold told at ul
  rw [kept_stl] at ul
  refine .inr ⟨_, rfl, (by show 1 ≤ sizeLine; decide), fun pp hpp => ?_⟩
  have s9 := (sAll.trans s7).trans s8
  have s10 := same_upd s9 (s9.free hpp) (.lst [.int (if Oc.under p c.1 c.2 = true then 1 else 0)])
  rw [show (!(stl (atomsP ([c.1, c.2] ++ pairL p)) (tys (atomsP ([c.1, c.2] ++ pairL p)) (Oc.keeps (atomsP ([c.1, c.2] ++ pairL p)) p))).any fun t => holds (atomsP ([c.1, c.2] ++ pairL p)) t c.1 && !holds (atomsP ([c.1, c.2] ++ pairL p)) t c.2) = Oc.under p c.1 c.2 from ul]
  refine q pp _ (fun b o e _ => s10 _ _ e) (s9.free hpp) ?_ (hD.kp (kp_of s10))
  rw [upd_same]
  cases Oc.under p c.1 c.2 <;> rfl
end
end Ax

namespace Ax
open PySem PySem.Spec PyProof.Rows L2
open LamX (CodeO TabS TabB LamS lamEnv lamCx ExtN)
open Oc (C Axiom holds)
/-! ### lambdas that are kept, then called -/
/-- the lambda at f, as the context X makes it -/
def LamO (X : Cx) (f c' : Addr) (ps : Arguments) (b : Expr) (sc : Scope) : HO :=
  .ext fun h => ∃ pm tv, h.get? f = some (PySem.W.kla_obj "<lambda>" (X.env.qual ++ "<lambda>") ps b sc (cloFrom X.env.cells sc.names []) pm c' tv)
theorem lamO_ne {X : Cx} {f c' : Addr} {ps : Arguments} {b : Expr} {sc : Scope} (qs : Array Value) : LamO X f c' ps b sc ≠ .tbl qs := fun z => by
  unfold LamO at z
  cases z
def tLm (X : Cx) (P : Addr) (ps : Arguments) (b : Expr) (sc : Scope) : TE := fun _ H Q => TabS H P (X.env.qual ++ "<lambda>") ∧
  ∀ (f c' : Addr) (H1 : Hp), Kp H H1 → TabS H1 P (X.env.qual ++ "<lambda>") → H f = none → H1 f = some (LamO X f c' ps b sc) → H1 c' = some (CodeO c' (X.env.qual ++ "<lambda>")) → Q (.ref f) H1
section
variable {X : Cx}
theorem pe_lm {c P : Addr} {ps : Arguments} {b : Expr} {sc : Scope} {pos : Pos} (TB : TabB X.base X.mg c P) (hcode : X.env.code = .ref c) (L : LamS X.env.scope sc) (hdef : defaultsOf ps X.env = ([], []) := by rfl) :
    PE X (.Lambda ps b sc pos) (tLm X P ps b sc) := by
  refine ⟨fun pins s σ H Q I h => ?_⟩
  obtain ⟨⟨qs, hP, ht, ha⟩, q⟩ := h
  have hfree := L.has I.ok
  refine PySem.W.kla_eval hdef ?_
  have bP := TB.bm.keeps I.bk
  have gP : s.heap.get? P = some { cls := .none, data := .fields qs } := I.hok P _ hP
  -- what is pushed then
  have fin : ∀ (h1 : Heap) (tk : Nat) (c' : Addr) (pm tv : Value) (H1 : Hp), Inv X pins σ H1 { s with heap := h1, toks := tk } → s.heap.objs.size ≤ h1.objs.size → Kp H H1 → TabS H1 P (X.env.qual ++ "<lambda>") → H1 c' = some (CodeO c' (X.env.qual ++ "<lambda>")) →
      EP X pins σ Q (.ref h1.objs.size) { s with heap := h1.push (PySem.W.kla_obj "<lambda>" (X.env.qual ++ "<lambda>") ps b sc (cloFrom X.env.cells sc.names []) pm c' tv), toks := tk } := by
    intro h1 tk c' pm tv H1 I1 hz k1 T1 hc1
    have n1 : H1 h1.objs.size = none := I1.hok.fresh (Nat.le_refl _)
    have I2 := I1.laid (a := h1.objs.size) (o := LamO X h1.objs.size c' ps b sc) (t' := tk) (h' := h1.push (PySem.W.kla_obj "<lambda>" (X.env.qual ++ "<lambda>") ps b sc (cloFrom X.env.cells sc.names []) pm c' tv))
      (fun _ _ e => Heap.get?_push_of_some _ e) (Nat.le_refl _) ⟨⟨pm, tv, Heap.get?_push_size _ rfl⟩, ⟨_, Heap.get?_push_size _ rfl⟩, fun _ _ ⟨x, y, e⟩ st => ⟨x, y, st _ e⟩⟩
    exact ⟨.ref h1.objs.size, _, I2, rfl, q _ c' _ (fun u o e n => by rw [upd_ne (ne_of_none (k1 u o e n) n1)]; exact k1 u o e n) (T1.ext (same_new n1 _)) (I.hok.fresh hz) upd_same (same_new n1 _ _ _ hc1)⟩
  cases hc : codeAmong pos qs.toList with
  | some cv =>
    obtain ⟨c', e, hco⟩ := ha pos cv hc
    subst e
    refine PySem.W.kla_makeFunctionHit (mg := X.mg) (ps := qs) (closure_ok hfree) I.ok.glob (I.mod.glob.keeps I.bk) hcode (TB.code.keeps I.bk) gP ht hc bP fun tv h1 tk hx hz => ?_
    exact fin h1 tk c' _ tv H (I.kept fun u o e => hx u o e) hz (fun _ _ e _ => e) ⟨qs, hP, ht, ha⟩ hco
  | none =>
    refine PySem.W.kla_makeFunction (mg := X.mg) (ps := qs) (closure_ok hfree) I.ok.glob (I.mod.glob.keeps I.bk) hcode (TB.code.keeps I.bk) gP ht hc TB.gP bP fun c' tv h1 tk hx hge hlt hrec htb => ?_
    obtain ⟨c2, oc, vs, t, e2, r1, r2, r3⟩ := hrec
    cases e2
    have nC := I.hok.fresh hge
    have I1 := LamX.inv_table (t' := tk) (more := #[rawInt pos.line, rawInt pos.col, .ref c']) (h' := h1) I hP (fun u o n e => hx u o n e) htb hge ⟨oc, vs, t, r1, r2, r3⟩
    have k1 : Kp H (upd (upd H P (.tbl (qs ++ #[rawInt pos.line, rawInt pos.col, .ref c']))) c' (CodeO c' (X.env.qual ++ "<lambda>"))) := fun u o e n => by
      rw [upd_ne (ne_of_none e nC), upd_ne (fun z => by rw [z, hP] at e; exact n qs (Option.some.inj e).symm)]
      exact e
    refine fin h1 tk c' _ tv _ I1 (Nat.le_trans hge (Nat.le_of_lt hlt)) k1 ⟨_, by rw [upd_ne (ne_of_none hP nC), upd_same], ?_, fun p' cv hcv => ?_⟩ upd_same
    · rw [Array.toList_append]
      exact PySem.TriplesOk_snoc _ _ _ _ ht
    · rw [Array.toList_append] at hcv
      rcases LamX.among_app (pos := pos) (c := .ref c') _ ht hcv with z | z
      · obtain ⟨c0, e1, e2⟩ := ha p' cv z
        exact ⟨c0, e1, k1 _ _ e2 LamX.codeO_ne⟩
      · exact ⟨c', z, upd_same⟩
/-- e() where e gives a lambda of this context's own -/
def tLc (X : Cx) (E : XK) (k : Nat) (tc : TE) : TE := fun σ H Q => tc σ H fun v H1 => ∃ (f c' : Addr) (ps : Arguments) (b : Expr) (sc : Scope) (tb : TE), v = .ref f ∧ H1 f = some (LamO X f c' ps b sc) ∧ H1 c' = some (CodeO c' (X.env.qual ++ "<lambda>")) ∧ LamS X.env.scope sc ∧
  (∀ (cl : List (Str × Addr)) (pm cv tv : Value), bindArgs (PySem.W.kla_fn "<lambda>" (X.env.qual ++ "<lambda>") ps b sc cl pm cv tv) ⟨[], []⟩ = pure []) ∧
  (∀ (s : Shared), Room k (X.A.deeper (lamEnv X sc s.heap.objs.size f c')) → PE (lamCx X X.A X.stack s H1 E sc f c') b tb) ∧ tb σ H1 Q
theorem pe_lc {e : Expr} {tc : TE} {k : Nat} {E : XK} {pos : Pos} (he : PE X e tc) (hx : Passes (L2.CX X.prog X.w) X E) (hr : Room (k + 1) X.A)
    (ht : eval (.Call e [] [] pos) X.env = (do callWith pos (← eval e X.env) [] (backTo pos (starEach [] X.env)) (backToKw pos (keywordEach [] X.env))) := by rfl) : PE X (.Call e [] [] pos) (tLc X E k tc) := by
  refine ⟨fun pins s σ H Q I h => ?_⟩
  refine Call_ (thn (he.run pins s σ H _ I h) fun u s1 ⟨v, H1, I1, r1, q1⟩ => ?_) ht
  obtain ⟨f, c', ps, b, sc, tb, rfl, h1, h2, L, hbind, hbody, q⟩ := q1
  obtain rfl : u = Value.ref f := r1
  obtain ⟨⟨pm, tv, of1⟩, _⟩ := I1.hok f _ h1
  obtain ⟨⟨oc, vs, t, r1, r2, r3⟩, _, _⟩ := I1.hok c' _ h2
  refine PySem.W.callWith_F0 ⟨_, _, _, _, of1⟩ ?_
  have rc : codeAny (model X.prog X.w) X.A (.call (.ref f) ⟨[], []⟩) (CR (L2.CX X.prog X.w) X.stack X.prog X.w H1 s1 Q E) s1 := by
    refine PySem.W.kla_callFunE hr.depth of1 rfl L.co L.gen rfl ⟨c', oc, vs, t, rfl, r1, r2, r3⟩ ?_
    rw [hbind]
    refine wpAny_pure (wpAny_newFunctionEnv (fun y hy => (L.own y hy).2) (fun y hy => absurd hy (by simp)) (fun h2 hns hsb => ⟨I1.nolimit.fresh _ hsb, ?_⟩) L.kind)
    show codeAny _ _ (.expr b (lamEnv X sc s1.heap.objs.size f c')) _ _
    have J : Inv (lamCx X X.A X.stack s1 H1 E sc f c') [] σ H1 { s1 with heap := h2, toks := s1.toks + ([] : List (Str × Value)).length } :=
      LamX.lam_start2 I1 L I1.env0 hr.hd Un.refl hns fun u o e => hsb.extBut u o (Nat.ne_of_lt (Heap.lt_size e)) (Heap.get?_push_of_some _ e)
    refine PySem.W.kla_codeExpr (wpAny_mono ((hbody s1 (hr.deeper _)).run [] _ _ H1 Q J q) (fun v s' hq => ?_) fun _ _ hq => hq)
    obtain ⟨w', H', J', rv, q'⟩ := hq
    exact ⟨w', H', J'.os, J'.bare, J'.base, J'.hok, rv, q'⟩
  refine wpAny_call (codeAny_mono rc fun r s' hq => ?_)
  cases r with
  | ok fl =>
    cases fl with
    | ret u => exact I1.after hq
    | next => exact False.elim hq
    | brk => exact False.elim hq
    | cont => exact False.elim hq
  | error e => exact hx pins σ H1 s1 e s' I1 hq
end
end Ax

namespace Ax
open PySem PySem.Spec PyProof.Rows L2
open LamX (CodeO TabS TabB LamS lamEnv lamCx)
open Oc (C Axiom holds)
/-- which call it is, by its number, its numbers and its row -/
inductive Deed : Nat → List Nat → List Nat → Oc06.Call → Prop
  | d0 (ns row : List Nat) : Deed 0 ns row .begins
  | d1 (ns row : List Nat) : Deed 1 ns row (.line row)
  | d2 (i : Nat) (row : List Nat) : Deed 2 [i] row (.drop i)
  | d3 (ns row : List Nat) : Deed 3 ns row (.words row)
  | d4 (i n r : Nat) (row : List Nat) : Deed 4 [i, n, r] row (.quiet i n r)
  | d5 (n r : Nat) (row : List Nat) : Deed 5 [n, r] row (.part n r)
  | d6 (ns row : List Nat) : Deed 6 ns row (.under row)
  | d7 (ns row : List Nat) : Deed 7 ns row (.by_ row)
  | d8 (ns row : List Nat) : Deed 8 ns row .parts
abbrev qL : Str := "Desk.answer.<locals>." ++ "<lambda>"
structure AnsK (K : PySem.W.Frag) (A : Ad) (c : Addr) : Prop where
  ex : ∃ (oc dV kV doc pm ct : Value) (od an : Option Addr) (osl : Array (Option Value)), K.lookup A.dAns = some ⟨oc, od, .func (PySem.W.fnOf "answer" "Desk.answer" (defArgs sDAns) (defBody sDAns) (defScope sDAns) dV kV doc pm an (.ref c) ct), osl⟩ ∧
    PySem.W.codeIn K (.ref c) "Desk.answer" = true ∧ Binds K (PySem.W.fnOf "answer" "Desk.answer" (defArgs sDAns) (defBody sDAns) (defScope sDAns) dV kV doc pm an (.ref c) ct) ["self", "call", "numbers", "row"] []
  kp : PySem.W.keepIn K (.ref A.dAns) = true
def spDAns (A : Ad) (K : PySem.W.Frag) (Pt : Addr) : Sp := fun vs H Q E => ∃ (d na ra : Addr) (axs : List Axiom) (c : Nat) (ns row : List Nat) (x : Oc06.Call), vs = [.ref d, vI c, .ref na, .ref ra] ∧ Deed c ns row x ∧ DeskAt A H d axs ∧ SqL K H na (ns.map vI) ∧ SqL K H ra (row.map vI) ∧ row.length ≤ 30 ∧
  TabS H Pt qL ∧ ∀ H1, Kp H H1 → TabS H1 Pt qL → OutM A d H1 Q E axs x
abbrev N_dAns : List Str := ["self", "call", "numbers", "row", "deeds"]
section
variable {P : Program} {w : World} {K : PySem.W.Frag} {mg : Str → Option Value} {base : Heap} {A : Ad}
theorem sc_dAns : FnScope N_dAns ["self", "call", "numbers", "row"] (defScope sDAns) := ⟨rfl, rfl, rfl, by decide +kernel, rfl, by decide +kernel, by decide +kernel⟩
theorem SqL.kp {H H' : Hp} {a : Addr} {xs : List V} (s : Kp H H') (h : SqL K H a xs) : SqL K H' a xs := by
  rcases h with (h | ⟨o, h⟩) | h
  · exact .inl (.inl (s _ _ h fun _ z => by cases z))
  · exact .inl (.inr ⟨o, s _ _ h fun _ z => by cases z⟩)
  · exact .inr h
theorem lamSA {sc : Scope} (h : LamX.lamSB (defScope sDAns) sc = true) : LamS (defScope sDAns) sc := LamX.lamS_by h
theorem mline {o : Expr} {m : Str} {apos pos : Pos} {args : List Expr} {env : Env} (hb : attributeBase o m env (eval o env) = eval o env) (hf : methodCallForm (args.length + ([] : List Keyword).length) (backTo pos (starEach args env)) (backToKw pos (keywordEach [] env)) = true) (hl : (apos.endLine == pos.line) = true) :
    eval (.Call (.Attribute o m apos) args [] pos) env = (do
      let ov ← eval o env
      standAt apos.atName
      let (f, first) ← holding [ov] (getMethod ov m (plainOf o env))
      callWith pos f first (backTo pos (starEach args env)) (backToKw pos (keywordEach [] env))) := by
  have e : eval (.Call (.Attribute o m apos) args [] pos) env = (do
      let ov ← attributeBase o m env (eval o env)
      standAt apos.atName
      methodCall o m apos pos env ov (args.length + ([] : List Keyword).length) (backTo pos (starEach args env)) (backToKw pos (keywordEach [] env))) := by rfl
  rw [e, hb]
  simp only [mcall_line hf hl]
theorem merge9 {f0 f1 f2 f3 f4 f5 f6 f7 f8 : V} : mergeK [] [(.inl 0, f0), (.inl 1, f1), (.inl 2, f2), (.inl 3, f3), (.inl 4, f4), (.inl 5, f5), (.inl 6, f6), (.inl 7, f7), (.inl 8, f8)] =
    ([(.inl 0, f0), (.inl 1, f1), (.inl 2, f2), (.inl 3, f3), (.inl 4, f4), (.inl 5, f5), (.inl 6, f6), (.inl 7, f7), (.inl 8, f8)] : List (Key × V)) := by
  simp [mergeK, putK]
theorem mlineN {x : Str} {p : Pos} {m : Str} {apos pos : Pos} {args : List Expr} {env : Env} (hf : methodCallForm (args.length + ([] : List Keyword).length) (backTo pos (starEach args env)) (backToKw pos (keywordEach [] env)) = true) (hl : (apos.endLine == pos.line) = true) :
    eval (.Call (.Attribute (.Name x p) m apos) args [] pos) env = (do
      let ov ← eval (.Name x p) env
      standAt apos.atName
      let (f, first) ← holding [ov] (getMethod ov m (plainOf (.Name x p) env))
      callWith pos f first (backTo pos (starEach args env)) (backToKw pos (keywordEach [] env))) := mline rfl hf hl
theorem room_u {k : Nat} {B : Around} (hr : Room k B) : B.units + 1 < cLine := by
  have := hr.un
  omega
theorem kp_trans {H H1 H2 : Hp} (a : Kp H H1) (b : Kp H1 H2) : Kp H H2 := fun c o h n => b c o (a c o h n) n
theorem passL {X : Cx} {B : Around} {outer : List Env} {s : Shared} {H : Hp} {E : XK} {sc : Scope} {f c' : Addr} {P : Program} {w : World} (hp : X.prog = P := by rfl) (hw : X.w = w := by rfl) : Passes (L2.CX P w) (lamCx X B outer s H E sc f c') E := by
  subst hp
  subst hw
  exact passE (takes_of rfl rfl rfl rfl) fun _ _ _ _ h => h
theorem kp_disp {H : Hp} {p : Addr} {kvs : List (Key × V)} (hp : H p = some (.dK [])) {b : Addr} {o : HO} (e : H b = some o) (h : ∀ l, o ≠ .dK l) : upd H p (.dK kvs) b = some o := by
  rw [upd_ne (fun z => by rw [z, hp] at e; exact h [] (Option.some.inj e).symm)]
  exact e
theorem ok_dAns (T : Txt K mg A) {c Pt : Addr} (AK : AnsK K A c) (TB : TabB base mg c Pt) : DefOk P w K mg base (L2.CX P w) 49 A.dAns ["self", "call", "numbers", "row"] (spDAns A K Pt) := by
  obtain ⟨oc, dV, kV, doc, pm, ct, od, an, osl, lk, hcd, hb⟩ := AK.ex
  refine ⟨⟨_, fn_of (N := N_dAns) lk hcd sc_dAns (fun vs H Q E h => ?_) (fun B outer s H vs Q E hr h => ?_), hb⟩, AK.kp⟩
  · obtain ⟨d, na, ra, axs, c, ns, row, x, rfl, _⟩ := h
    rfl
  refine ⟨_, pss_cons (ps_set (i := 4) sc_dAns.nd rfl (.inl rfl) (pe_disp (pps_cons pe_int (pe_lm TB rfl (lamSA (by decide +kernel))) (pps_cons pe_int (pe_lm TB rfl (lamSA (by decide +kernel))) (pps_cons pe_int (pe_lm TB rfl (lamSA (by decide +kernel)))
    (pps_cons pe_int (pe_lm TB rfl (lamSA (by decide +kernel))) (pps_cons pe_int (pe_lm TB rfl (lamSA (by decide +kernel))) (pps_cons pe_int (pe_lm TB rfl (lamSA (by decide +kernel)))
    (pps_cons pe_int (pe_lm TB rfl (lamSA (by decide +kernel))) (pps_cons pe_int (pe_lm TB rfl (lamSA (by decide +kernel))) (pps_cons pe_int (pe_lm TB rfl (lamSA (by decide +kernel))) pps_nil))))))))) rfl rfl (by simp) (by decide)))
    (pss_one (ps_ret (pe_lc (k := 47) (pe_dget (room_u hr) (pv 4) (pv 1) (fun _ _ => rfl)) passD hr))), ?_⟩
  obtain ⟨d, na, ra, axs, cc, ns, row, x, rfl, hx, hD, hN, hR, hlen, hT, q⟩ := h
  have nd : ∀ ps, (HO.dK []) ≠ .tbl ps := fun _ z => by cases z
  refine fun p hp => ⟨hT.ext (same_new hp _), fun f0 c0 H0 k0 t0 n0 a0 b0 => ⟨t0, fun f1 c1 H1 k1 t1 n1 a1 b1 => ⟨t1, fun f2 c2 H2 k2 t2 n2 a2 b2 => ⟨t2, fun f3 c3 H3 k3 t3 n3 a3 b3 => ⟨t3, fun f4 c4 H4 k4 t4 n4 a4 b4 => ⟨t4, fun f5 c5 H5 k5 t5 n5 a5 b5 =>
    ⟨t5, fun f6 c6 H6 k6 t6 n6 a6 b6 => ⟨t6, fun f7 c7 H7 k7 t7 n7 a7 b7 => ⟨t7, fun f8 c8 H8 k8 t8 n8 a8 b8 => ?_⟩⟩⟩⟩⟩⟩⟩⟩⟩
  have r7 := k8
  have r6 := kp_trans k7 r7
  have r5 := kp_trans k6 r6
  have r4 := kp_trans k5 r5
  have r3 := kp_trans k4 r4
  have r2 := kp_trans k3 r3
  have r1 := kp_trans k2 r2
  have r0 := kp_trans k1 r1
  have r := kp_trans k0 r0
  have e8 : H8 p = some (.dK []) := r _ _ upd_same nd
  refine ⟨e8, [(.inl 0, .ref f0), (.inl 1, .ref f1), (.inl 2, .ref f2), (.inl 3, .ref f3), (.inl 4, .ref f4), (.inl 5, .ref f5), (.inl 6, .ref f6), (.inl 7, .ref f7), (.inl 8, .ref f8)], rfl, (by show 9 ≤ 15; decide), ?_⟩
  have np : ∀ {b : Addr} {o : HO}, H8 b = some o → o ≠ .dK [] → b ≠ p := fun e h z => by
    rw [z, e8] at e
    exact h (Option.some.inj e).symm
  have kz : ∀ {b : Addr} {o : HO}, H8 b = some o → b ≠ p → upd H8 p (.dK [(.inl 0, .ref f0), (.inl 1, .ref f1), (.inl 2, .ref f2), (.inl 3, .ref f3), (.inl 4, .ref f4), (.inl 5, .ref f5), (.inl 6, .ref f6), (.inl 7, .ref f7), (.inl 8, .ref f8)]) b = some o := fun e h => by
    rw [upd_ne h]
    exact e
  rw [merge9]
  have gz : upd H8 p (.dK [(.inl 0, .ref f0), (.inl 1, .ref f1), (.inl 2, .ref f2), (.inl 3, .ref f3), (.inl 4, .ref f4), (.inl 5, .ref f5), (.inl 6, .ref f6), (.inl 7, .ref f7), (.inl 8, .ref f8)]) p = some (.dK [(.inl 0, .ref f0), (.inl 1, .ref f1), (.inl 2, .ref f2), (.inl 3, .ref f3), (.inl 4, .ref f4), (.inl 5, .ref f5), (.inl 6, .ref f6), (.inl 7, .ref f7), (.inl 8, .ref f8)]) := upd_same
  generalize upd H8 p (.dK [(.inl 0, .ref f0), (.inl 1, .ref f1), (.inl 2, .ref f2), (.inl 3, .ref f3), (.inl 4, .ref f4), (.inl 5, .ref f5), (.inl 6, .ref f6), (.inl 7, .ref f7), (.inl 8, .ref f8)]) = Hz at kz gz ⊢
  have kH : Kp H Hz := fun b o e n => by
    have hb : b ≠ p := ne_of_none e hp
    exact kz (r _ _ (by rw [upd_ne hb]; exact e) n) hb
  have tz : TabS Hz Pt qL := by
    obtain ⟨qs, h1, h2, h3⟩ := t8
    refine ⟨qs, kz h1 (np h1 (fun z => by cases z)), h2, fun pos cv e => ?_⟩
    obtain ⟨c', e1, e2⟩ := h3 pos cv e
    exact ⟨c', e1, kz e2 (np e2 (fun z => by unfold CodeO at z; cases z))⟩
  have o := q Hz kH tz
  have lz : ∀ {X : Cx} {f c' : Addr} {ps : Arguments} {b : Expr} {sc : Scope}, H8 f = some (LamO X f c' ps b sc) → Hz f = some (LamO X f c' ps b sc) := fun e => kz e (np e fun z => by unfold LamO at z; cases z)
  have cz : ∀ {c' : Addr} {x : Str}, H8 c' = some (CodeO c' x) → Hz c' = some (CodeO c' x) := fun e => kz e (np e fun z => by unfold CodeO at z; cases z)
  have hDz := hD.kp kH
  have hRz := SqL.kp kH hR
  have hNz := SqL.kp kH hN
  obtain ⟨dx, l0, us, h1, h2, h3⟩ := hDz.ex
  cases hx with
  | d0 _ _ =>
    refine ⟨_, rfl, _, rfl, p, .ref f0, rfl, DGet.k (k := .inl 0) gz, f0, c0, _, _, _, _, rfl, lz (r0 _ _ a0 lamO_ne), cz (r0 _ _ b0 LamX.codeO_ne), lamSA (by decide +kernel), fun _ _ _ _ => rfl, fun _ hr' => dmeth0 (X := lamCx _ _ _ _ _ E _ _ _) (ok_dBeg T) (hr'.mono (by omega)) T.cl_d T.m_dBeg passL (pv 0) (ht := mlineN rfl rfl), ?_⟩
    exact ⟨_, rfl, d, dx, _, rfl, h1, dF_beg, d, axs, rfl, hDz, o⟩
  | d1 _ _ =>
    refine ⟨_, rfl, _, rfl, p, .ref f1, rfl, DGet.k (k := .inl 1) gz, f1, c1, _, _, _, _, rfl, lz (r1 _ _ a1 lamO_ne), cz (r1 _ _ b1 LamX.codeO_ne), lamSA (by decide +kernel), fun _ _ _ _ => rfl, fun _ hr' => dmeth (X := lamCx _ _ _ _ _ E _ _ _) (ok_dLine T) (hr'.mono (by omega)) T.cl_d T.m_dLine passL (pv 0) (pa_cons (pv 3) pa_nil) (ht := mlineN rfl rfl), ?_⟩
    exact ⟨_, rfl, d, dx, _, rfl, h1, dF_line, _, rfl, d, ra, axs, row, rfl, hDz, hRz, hlen, o⟩
  | d2 i _ =>
    refine ⟨_, rfl, _, rfl, p, .ref f2, rfl, DGet.k (k := .inl 2) gz, f2, c2, _, _, _, _, rfl, lz (r2 _ _ a2 lamO_ne), cz (r2 _ _ b2 LamX.codeO_ne), lamSA (by decide +kernel), fun _ _ _ _ => rfl, fun _ hr' => dmeth (X := lamCx _ _ _ _ _ E _ _ _) (ok_dDrop T) (hr'.mono (by omega)) T.cl_d T.m_dDrop passL (pv 0) (pa_cons (pe_ix (show IxR _ (rIxL K) from ix_list) (pv 2) pe_int (fun _ _ => rfl)) pa_nil) (ht := mlineN rfl rfl), ?_⟩
    exact ⟨_, rfl, d, dx, _, rfl, h1, dF_drop, _, rfl, na, _, _, _, rfl, rfl, hNz, atI_nat (xs := [vI i]) (j := 0) rfl, d, axs, i, rfl, hDz, o⟩
  | d3 _ _ =>
    refine ⟨_, rfl, _, rfl, p, .ref f3, rfl, DGet.k (k := .inl 3) gz, f3, c3, _, _, _, _, rfl, lz (r3 _ _ a3 lamO_ne), cz (r3 _ _ b3 LamX.codeO_ne), lamSA (by decide +kernel), fun _ _ _ _ => rfl, fun _ hr' => dmeth (X := lamCx _ _ _ _ _ E _ _ _) (ok_dWords T) (hr'.mono (by omega)) T.cl_d T.m_dWords passL (pv 0) (pa_cons (pv 3) pa_nil) (ht := mlineN rfl rfl), ?_⟩
    exact ⟨_, rfl, d, dx, _, rfl, h1, dF_words, _, rfl, d, ra, axs, row, rfl, hDz, hRz, hlen, o⟩
  | d4 i n m _ =>
    refine ⟨_, rfl, _, rfl, p, .ref f4, rfl, DGet.k (k := .inl 4) gz, f4, c4, _, _, _, _, rfl, lz (r4 _ _ a4 lamO_ne), cz (r4 _ _ b4 LamX.codeO_ne), lamSA (by decide +kernel), fun _ _ _ _ => rfl, fun _ hr' => dmeth (X := lamCx _ _ _ _ _ E _ _ _) (ok_dQuiet T) (hr'.mono (by omega)) T.cl_d T.m_dQuiet passL (pv 0)
      (pa_cons (pe_ix (show IxR _ (rIxL K) from ix_list) (pv 2) pe_int (fun _ _ => rfl)) (pa_cons (pe_ix (show IxR _ (rIxL K) from ix_list) (pv 2) pe_int (fun _ _ => rfl)) (pa_cons (pe_ix (show IxR _ (rIxL K) from ix_list) (pv 2) pe_int (fun _ _ => rfl)) pa_nil))) (ht := mlineN rfl rfl), ?_⟩
    exact ⟨_, rfl, d, dx, _, rfl, h1, dF_quiet, _, rfl, na, _, _, _, rfl, rfl, hNz, atI_nat (xs := [vI i, vI n, vI m]) (j := 0) rfl, _, rfl, na, _, _, _, rfl, rfl, hNz, atI_nat (xs := [vI i, vI n, vI m]) (j := 1) rfl, _, rfl, na, _, _, _, rfl, rfl, hNz, atI_nat (xs := [vI i, vI n, vI m]) (j := 2) rfl, d, axs, i, n, m, rfl, hDz, o⟩
  | d5 n m _ =>
    refine ⟨_, rfl, _, rfl, p, .ref f5, rfl, DGet.k (k := .inl 5) gz, f5, c5, _, _, _, _, rfl, lz (r5 _ _ a5 lamO_ne), cz (r5 _ _ b5 LamX.codeO_ne), lamSA (by decide +kernel), fun _ _ _ _ => rfl, fun _ hr' => dmeth (X := lamCx _ _ _ _ _ E _ _ _) (ok_dPart T) (hr'.mono (by omega)) T.cl_d T.m_dPart passL (pv 0)
      (pa_cons (pe_ix (show IxR _ (rIxL K) from ix_list) (pv 2) pe_int (fun _ _ => rfl)) (pa_cons (pe_ix (show IxR _ (rIxL K) from ix_list) (pv 2) pe_int (fun _ _ => rfl)) pa_nil)) (ht := mlineN rfl rfl), ?_⟩
    exact ⟨_, rfl, d, dx, _, rfl, h1, dF_part, _, rfl, na, _, _, _, rfl, rfl, hNz, atI_nat (xs := [vI n, vI m]) (j := 0) rfl, _, rfl, na, _, _, _, rfl, rfl, hNz, atI_nat (xs := [vI n, vI m]) (j := 1) rfl, d, axs, n, m, rfl, hDz, o⟩
  | d6 _ _ =>
    refine ⟨_, rfl, _, rfl, p, .ref f6, rfl, DGet.k (k := .inl 6) gz, f6, c6, _, _, _, _, rfl, lz (r6 _ _ a6 lamO_ne), cz (r6 _ _ b6 LamX.codeO_ne), lamSA (by decide +kernel), fun _ _ _ _ => rfl, fun _ hr' => dmeth (X := lamCx _ _ _ _ _ E _ _ _) (ok_dUnd T) (hr'.mono (by omega)) T.cl_d T.m_dUnd passL (pv 0) (pa_cons (pv 3) pa_nil) (ht := mlineN rfl rfl), ?_⟩
    exact ⟨_, rfl, d, dx, _, rfl, h1, dF_und, _, rfl, d, ra, axs, row, rfl, hDz, hRz, hlen, o⟩
  | d7 _ _ =>
    refine ⟨_, rfl, _, rfl, p, .ref f7, rfl, DGet.k (k := .inl 7) gz, f7, c7, _, _, _, _, rfl, lz (r7 _ _ a7 lamO_ne), cz (r7 _ _ b7 LamX.codeO_ne), lamSA (by decide +kernel), fun _ _ _ _ => rfl, fun _ hr' => dmeth (X := lamCx _ _ _ _ _ E _ _ _) (ok_dBy T) (hr'.mono (by omega)) T.cl_d T.m_dBy passL (pv 0) (pa_cons (pv 3) pa_nil) (ht := mlineN rfl rfl), ?_⟩
    exact ⟨_, rfl, d, dx, _, rfl, h1, dF_by, _, rfl, d, ra, axs, row, rfl, hDz, hRz, hlen, o⟩
  | d8 _ _ =>
    refine ⟨_, rfl, _, rfl, p, .ref f8, rfl, DGet.k (k := .inl 8) gz, f8, c8, _, _, _, _, rfl, lz a8, cz b8, lamSA (by decide +kernel), fun _ _ _ _ => rfl, fun _ hr' => dmeth0 (X := lamCx _ _ _ _ _ E _ _ _) (ok_dTell T) (hr'.mono (by omega)) T.cl_d T.m_dTell passL (pv 0) (ht := mlineN rfl rfl), ?_⟩
    exact ⟨_, rfl, d, dx, _, rfl, h1, dF_tell, d, axs, rfl, hDz, o⟩
end
end Ax

namespace Ax
open PySem PySem.Spec PyProof.Rows L2
open LamX (CodeO TabS TabB)
open Oc (C Axiom holds)
/-! ### a call, or its error -/
/-- o.m(e, ..) within a try: what it raises is wished for at the slots as they stand -/
def tMethS (C : Addr) (m : Str) (sp : Sp) (E : L2.St → XK) (ta : TE) (t : TA) : TE := fun σ H Q => ta σ H fun x H1 => ∃ a dx fs, x = .ref a ∧ H1 a = some (.ins C dx fs) ∧ fs.lookup m = none ∧ t σ H1 fun vs H2 => sp (x :: vs) H2 Q (E σ)
theorem pe_methS {X : Cx} {CX : CXT} {k : Nat} {f C : Addr} {fd : FuncData} {ps : List Str} {sp : Sp} {E : L2.St → XK} {m : Str} {pos apos : Pos} {e o : Expr} {es : List Expr} {ta : TE} {t : TA} {pl : Sem Bool} (he : PE X o ta) (c : Cls X.K C) (hm : Meth X.K C m f)
    (F : FnOk X.prog X.w X.K X.mg X.base CX k f fd ps sp) (hr : Room k X.A) (hb : Binds X.K fd ps []) (hx : ∀ σ, PassesAt CX X σ (E σ)) (ha : PA X (e :: es) t)
    (hst : starEach (e :: es) X.env = (false, eval e X.env) :: starEach es X.env := by rfl) (hpl : (backTo pos (starEach es X.env)).any (·.1) = false := by rfl)
    (ht : eval (.Call (.Attribute o m apos) (e :: es) [] pos) X.env = (do
      let ov ← eval o X.env
      standAt apos.atName
      let (f, first) ← holding [ov] (getMethod ov m pl)
      callWith pos f first (backTo pos (starEach (e :: es) X.env)) (backToKw pos (keywordEach [] X.env))) := by rfl) :
    PE X (.Call (.Attribute o m apos) (e :: es) [] pos) (tMethS C m sp E ta t) := by
  refine ⟨fun pins s σ H Q I h => ?_⟩
  refine PySem.W.methodCall_KW (pl := pl) (thn (he.run pins s σ H _ I h) fun u s1 ⟨x, H1, I1, rx, a, dx, fs, ex, ea, l, q⟩ => ?_) ht
  subst ex
  obtain rfl : u = Value.ref a := rx
  refine getmeth_ok I1 ea c hm l ?_
  refine PySem.W.callWith_K (first := [.ref a]) (h₀ := X.base) I.ok.mod.kin hm.kp (thn (ha.run pos pins s1 σ H1 _ I1 q) fun us s2 ⟨vs, H2, I2, r, q2⟩ => ⟨I2.kIn, ?_⟩) hst hpl
  exact run_fnS (us := .ref a :: us) (vs := .ref a :: vs) F hr hb (hx σ) I2 (.cons rfl r) q2
/-- a new place, but for tables -/
def NewK (H : Hp) (p : Addr) : Prop := ∀ o, H p = some o → ∃ ps, o = .tbl ps
theorem NewK.of {H H1 : Hp} {p : Addr} (k : Kp H H1) (h : H1 p = none) : NewK H p := fun o e => Classical.byContradiction fun n => by
  have z := k p o e fun ps z => n ⟨ps, z⟩
  rw [h] at z
  cases z
/-- a call's end, whether it answers or errs -/
def EndsN (A : Ad) (Pt d : Addr) (H : Hp) (Q : VK) (axs : List Axiom) (ans : List Int) : Prop := ∀ (p : Addr) (H' : Hp), (∀ b o, H b = some o → b ≠ d → (∀ ps, o ≠ .tbl ps) → H' b = some o) → NewK H p → H' p = some (.lst (ans.map V.int)) → DeskAt A H' d axs → TabS H' Pt qL → Q (.ref p) H'
theorem step_bad {axs : List Axiom} {x : Oc06.Call} (h : (Oc06.step ⟨axs⟩ x).2.v < 0) : (Oc06.step ⟨axs⟩ x).1.axioms = axs ∧ (Oc06.step ⟨axs⟩ x).2.l = [] := by
  cases x <;> simp only [Oc06.step] at h ⊢ <;> (repeat' split at h) <;> simp_all [Oc06.ok] <;> omega
def spAnd (A : Ad) (K : PySem.W.Frag) (Pt : Addr) : Sp := fun vs H Q _ => ∃ (d na ra : Addr) (axs : List Axiom) (c : Nat) (ns row : List Nat) (x : Oc06.Call), vs = [.ref d, vI c, .ref na, .ref ra] ∧ Deed c ns row x ∧ DeskAt A H d axs ∧ SqL K H na (ns.map vI) ∧ SqL K H ra (row.map vI) ∧ row.length ≤ 30 ∧
  TabS H Pt qL ∧ EndsN A Pt d H Q (Oc06.step ⟨axs⟩ x).1.axioms (Oc06Neutral.out (Oc06.step ⟨axs⟩ x).2)
abbrev N_and : List Str := ["desk", "call", "numbers", "row", "refusal"]
section
variable {P : Program} {w : World} {K : PySem.W.Frag} {mg : Str → Option Value} {base : Heap} {A : Ad}
theorem sc_and : FnScope N_and ["desk", "call", "numbers", "row"] (defScope sAnd) := ⟨rfl, rfl, rfl, by decide +kernel, rfl, by decide +kernel, by decide +kernel⟩
theorem tab_but {H H' : Hp} {d Pt : Addr} {q : Str} (k : ∀ b o, H b = some o → b ≠ d → H' b = some o) {C dx : Addr} {fs : List (Str × V)} (hd : H d = some (.ins C dx fs)) (t : TabS H Pt q) : TabS H' Pt q := by
  obtain ⟨qs, h1, h2, h3⟩ := t
  refine ⟨qs, k _ _ h1 (fun z => by rw [z, hd] at h1; cases h1), h2, fun pos cv e => ?_⟩
  obtain ⟨c', e1, e2⟩ := h3 pos cv e
  exact ⟨c', e1, k _ _ e2 fun z => by rw [z, hd] at e2; unfold CodeO at e2; cases e2⟩
theorem ok_and (T : Txt K mg A) {c Pt : Addr} (AK : AnsK K A c) (TB : TabB base mg c Pt) : DefOk P w K mg base CX0 50 A.and_ ["desk", "call", "numbers", "row"] (spAnd A K Pt) := by
  refine T.d_and_.ok sc_and (fun vs H Q E h => ?_) (fun cdv B outer s H vs Q E hr h => ?_)
  · obtain ⟨d, na, ra, axs, c, ns, row, x, rfl, _⟩ := h
    rfl
  obtain ⟨fd, F, bd⟩ := (ok_dAns (P := P) (w := w) (K := K) (mg := mg) (base := base) T AK TB).ex
  refine ⟨_, pss_one (ps_try_as (i := 4) (tb := fun W => tRet (tMethS A.d "answer" (spDAns A K Pt) (WE W) (tVar 0) (tCons (tVar 1) (tCons (tVar 2) (tCons (tVar 3) tNil))))) (ts := fun a cls d => tRet (tLst (tCons (tXf a cls d A.re "code" (tVar 4)) tNil))) (Wout := fun _ _ _ _ => False) rfl rfl sc_and.nd rfl rfl ⟨rfl, by decide, .inl T.gRe⟩ takes0
    (fun W pn xe tk _ => pss_one (ps_ret (pe_methS (pv 0) T.cl_d T.m_dAns F hr bd (fun σ => passAt tk σ) (by exact (pa_cons (pv 1) (pa_cons (pv 2) (pa_cons (pv 3) pa_nil)))))))
    (fun a oe cls d pn hz hf => pss_one (ps_ret (pe_lst (pa_cons (pe_xf T.xf T.noCode hz hf (pv 4)) pa_nil))))), ?_⟩
  obtain ⟨d, na, ra, axs, c, ns, row, x, rfl, hx, hD, hN, hR, hlen, hT, q⟩ := h
  obtain ⟨dx, l0, us, h1, h2, h3⟩ := hD.ex
  refine ⟨_, rfl, d, dx, _, rfl, h1, dF_ans, _, rfl, _, rfl, _, rfl, d, na, ra, axs, c, ns, row, x, rfl, hx, hD, hN, hR, hlen, hT, fun H1 k1 t1 => ⟨fun hv => ?_, fun hv => ?_⟩⟩
  · intro dd H2 s2 hdd h2
    obtain ⟨e1, e2⟩ := step_bad hv
    refine ⟨true, T.eRe, fun _ a ha => ?_, fun z => (by cases z)⟩
    refine ⟨_, rfl, rfl, rfl, dd, _, _, rfl, h2, lk0, (by show 1 ≤ sizeLine; decide), fun p hp => ?_⟩
    have hp2 : H1 p = none := s2.free hp
    have m := same_upd s2 hp2 (.lst [.int (Oc06.step ⟨axs⟩ x).2.v])
    refine q p _ (fun b o e hb n => m _ _ (k1 b o e n)) (.of k1 hp2) ?_ ?_ (t1.ext m)
    · rw [upd_same]
      unfold Oc06Neutral.out
      rw [e2]
      rfl
    · rw [e1]
      exact hD.kp fun b o e n => m _ _ (k1 b o e n)
  · intro p H2 k2 hp h2 hD2
    exact q p H2 (fun b o e hb n => k2 b o (k1 b o e n) hb) (.of k1 hp) h2 hD2 (tab_but k2 (k1 _ _ h1 fun _ z => by cases z) t1)
end
end Ax

namespace Ax
/-! ### the flat list, a call at a time -/
def nOf (c : Nat) : Nat := ([0, 0, 1, 0, 3, 2, 0, 0, 0] : List Nat).getD c 0
theorem at_drop {l : List Int} {a : Nat} {x : Int} {r : List Int} (h : l.drop a = x :: r) : l[a]? = some x ∧ l.drop (a + 1) = r ∧ a + 1 + r.length = l.length := by
  have h1 : l[a]? = some x := by
    have z := congrArg (fun m => m[0]?) h
    simpa using z
  have h2 : l.drop (a + 1) = r := by
    have z := congrArg (List.drop 1) h
    simpa [List.drop_drop] using z
  refine ⟨h1, h2, ?_⟩
  have z := congrArg List.length h
  rw [List.length_drop, List.length_cons] at z
  omega
structure Turn (l : List Int) (a c : Nat) (nums row : List Nat) (x : Oc06.Call) (raw : List (List Int)) (b : Nat) : Prop where
  c9 : c < 9
  hc : l[a]? = some (c : Int)
  num : (l.drop (a + 1)).take nums.length = nums.map fun (n : Nat) => (n : Int)
  len : nums.length = nOf c
  sat : a + 1 + nums.length ≤ l.length
  rw_ : (c ∈ [1, 3, 6, 7] ∧ l[a + 1 + nums.length]? = some (row.length : Int) ∧ (l.drop (a + 1 + nums.length + 1)).take row.length = (row.map fun (n : Nat) => (n : Int)) ∧ b = a + 1 + nums.length + 1 + row.length) ∨ (c ∉ [1, 3, 6, 7] ∧ row = [] ∧ b = a + 1 + nums.length)
  most : row.length ≤ 30
  le : b ≤ l.length
  lt : a < b
  deed : Deed c nums row x
  is : Oc06Neutral.callOf (PyOc06.whole raw) = some x
theorem nonneg_is : ∀ {l : List Int}, (∀ z ∈ l, 0 ≤ z) → ((l.map Int.toNat).map fun (n : Nat) => (n : Int)) = l
  | [], _ => rfl
  | a :: l, h => by
    rw [List.map_cons, List.map_cons, nonneg_is fun z hz => h z (List.mem_cons_of_mem _ hz), Int.toNat_of_nonneg (h a List.mem_cons_self)]
theorem row_is {l x t : List Int} (h : PyFlat.row l = some (x, t)) : ∃ (m : Nat) (r : List Int), l = (m : Int) :: r ∧ m ≤ r.length ∧ x = r.take m ∧ t = r.drop m := by
  cases l with
  | nil => cases h
  | cons n r =>
    unfold PyFlat.row at h
    simp only at h
    split at h
    · rename_i c
      cases h
      exact ⟨n.toNat, r, by rw [Int.toNat_of_nonneg c.1], c.2, rfl, rfl⟩
    · cases h
theorem rows1_is {l : List Int} {xs : List (List Int)} {t : List Int} (h : PyFlat.rows 1 l = some (xs, t)) : ∃ (m : Nat) (r : List Int), l = (m : Int) :: r ∧ m ≤ r.length ∧ xs = [r.take m] ∧ t = r.drop m := by
  unfold PyFlat.rows at h
  split at h
  · cases h
  · rename_i x s e
    obtain ⟨m, r, e1, e2, e3, e4⟩ := row_is e
    have h' : some ([x], s) = some (xs, t) := h
    cases h'
    exact ⟨m, r, e1, e2, by rw [e3], e4⟩
theorem calls_is {p : Int} {r : List Int} {f : Nat} {cs : List (List (List Int))} (h : PyFlat.calls PyOc06.shape f (p :: r) = some cs) : ∃ (f' n k : Nat) (xs : List (List Int)) (t : List Int) (cs' : List (List (List Int))), PyOc06.shape p = some (n, k) ∧ n ≤ r.length ∧ PyFlat.rows k (r.drop n) = some (xs, t) ∧
    PyFlat.calls PyOc06.shape f' t = some cs' ∧ cs = ((p :: r.take n) :: xs) :: cs' := by
  cases f with
  | zero => cases h
  | succ f =>
    unfold PyFlat.calls at h
    split at h
    · cases h
    · rename_i c t e
      split at h
      · cases h
      · rename_i cs' e2
        cases h
        unfold PyFlat.call at e
        simp only at e
        split at e
        · cases e
        · rename_i n k e3
          split at e
          · cases e
          · rename_i hn
            split at e
            · cases e
            · rename_i xs t' e4
              cases e
              exact ⟨f, n, k, xs, t, cs', e3, by omega, e4, e2, rfl⟩
theorem within_nn {z : Int} (h : PyInside.within 0 4294967295 z = true) : 0 ≤ z := by
  unfold PyInside.within at h
  rw [Bool.and_eq_true] at h
  exact of_decide_eq_true h.1
/-- a call with a row alone -/
theorem turn_row {l : List Int} {a c f : Nat} {r : List Int} {cs : List (List (List Int))} {mk : List Nat → Oc06.Call} (c9 : c < 9) (hl : l.drop a = (c : Int) :: r) (hsh : PyOc06.shape (c : Int) = some (0, 1)) (hn : nOf c = 0) (hm : c ∈ [1, 3, 6, 7]) (hb : PyOc06.bound (c : Int) = ([], [(0, 4294967295, 0, 30)]))
    (hd : ∀ row, Deed c [] row (mk row)) (hi : ∀ z : List Int, Oc06Neutral.callOf (PyOc06.whole [[(c : Int)], z]) = some (mk (z.map Int.toNat)))
    (h : PyFlat.calls PyOc06.shape f (l.drop a) = some cs) (hin : ∀ c ∈ cs, PyInside.call PyOc06.bound c = true) :
    ∃ (c : Nat) (nums row : List Nat) (x : Oc06.Call) (raw : List (List Int)) (b f' : Nat) (cs' : List (List (List Int))), cs = raw :: cs' ∧ Turn l a c nums row x raw b ∧ PyFlat.calls PyOc06.shape f' (l.drop b) = some cs' := by
  rw [hl] at h
  obtain ⟨f', n, k, xs, t, cs', e1, e2, e3, e4, e5⟩ := calls_is h
  rw [hsh] at e1
  cases e1
  obtain ⟨m, r', g1, g2, g3, g4⟩ := rows1_is e3
  rw [List.drop_zero] at g1
  subst g1
  subst g3
  subst g4
  obtain ⟨d1, d2, d3⟩ := at_drop hl
  obtain ⟨d4, d5, d6⟩ := at_drop d2
  have hi1 := hin _ (by rw [e5]; exact List.mem_cons_self)
  have hw : (r'.take m).length ≤ 30 ∧ ∀ z ∈ r'.take m, 0 ≤ z := by
    unfold PyInside.call at hi1
    simp only [hb, PyInside.each, PyInside.lists, Bool.true_and, Bool.and_true, Bool.and_eq_true, decide_eq_true_eq, List.all_eq_true] at hi1
    exact ⟨hi1.1.2, fun z hz => within_nn (hi1.2 z hz)⟩
  have lm : (r'.take m).length = m := by
    rw [List.length_take]
    omega
  refine ⟨c, [], (r'.take m).map Int.toNat, mk ((r'.take m).map Int.toNat), _, a + 1 + 1 + m, f', cs', e5, ⟨c9, d1, rfl, hn.symm, (by show a + 1 + 0 ≤ _; omega), .inl ⟨hm, ?_, ?_, ?_⟩, ?_, ?_, by omega, hd _, hi _⟩, ?_⟩
  · rw [List.length_map, lm]
    exact d4
  · rw [List.length_map, lm, nonneg_is hw.2]
    show (l.drop (a + 1 + 0 + 1)).take m = _
    rw [Nat.add_zero, d5]
  · rw [List.length_map, lm]
    rfl
  · rw [List.length_map]
    exact hw.1
  · omega
  · rw [← e4, ← d5, List.drop_drop]
theorem shape_is {p : Int} {n k : Nat} (h : PyOc06.shape p = some (n, k)) : p = 0 ∨ p = 1 ∨ p = 2 ∨ p = 3 ∨ p = 4 ∨ p = 5 ∨ p = 6 ∨ p = 7 ∨ p = 8 := by
  unfold PyOc06.shape at h
  by_cases h0 : p = 0
  · exact .inl h0
  by_cases h1 : p = 1
  · exact .inr (.inl h1)
  by_cases h2 : p = 2
  · exact .inr (.inr (.inl h2))
  by_cases h3 : p = 3
  · exact .inr (.inr (.inr (.inl h3)))
  by_cases h4 : p = 4
  · exact .inr (.inr (.inr (.inr (.inl h4))))
  by_cases h5 : p = 5
  · exact .inr (.inr (.inr (.inr (.inr (.inl h5)))))
  by_cases h6 : p = 6
  · exact .inr (.inr (.inr (.inr (.inr (.inr (.inl h6))))))
  by_cases h7 : p = 7
  · exact .inr (.inr (.inr (.inr (.inr (.inr (.inr (.inl h7)))))))
  by_cases h8 : p = 8
  · exact .inr (.inr (.inr (.inr (.inr (.inr (.inr (.inr h8)))))))
  rw [if_neg h0, if_neg h1, if_neg h2, if_neg h3, if_neg h4, if_neg h5, if_neg h6, if_neg h7, if_neg h8] at h
  cases h
/-- a call with numbers alone -/
theorem turn_num {l : List Int} {a c f n : Nat} {r : List Int} {cs : List (List (List Int))} {x : List Nat → Oc06.Call} (c9 : c < 9) (hl : l.drop a = (c : Int) :: r) (hsh : PyOc06.shape (c : Int) = some (n, 0)) (hn : nOf c = n) (hm : c ∉ [1, 3, 6, 7])
    (hb : ∀ zs : List Int, zs.length = n → PyInside.call PyOc06.bound [(c : Int) :: zs] = true → ∀ z ∈ zs, 0 ≤ z) (hd : ∀ nums : List Nat, nums.length = n → Deed c nums [] (x nums))
    (hi : ∀ zs : List Int, zs.length = n → Oc06Neutral.callOf (PyOc06.whole [(c : Int) :: zs]) = some (x (zs.map Int.toNat)))
    (h : PyFlat.calls PyOc06.shape f (l.drop a) = some cs) (hin : ∀ c ∈ cs, PyInside.call PyOc06.bound c = true) :
    ∃ (c : Nat) (nums row : List Nat) (x : Oc06.Call) (raw : List (List Int)) (b f' : Nat) (cs' : List (List (List Int))), cs = raw :: cs' ∧ Turn l a c nums row x raw b ∧ PyFlat.calls PyOc06.shape f' (l.drop b) = some cs' := by
  rw [hl] at h
  obtain ⟨f', n', k, xs, t, cs', e1, e2, e3, e4, e5⟩ := calls_is h
  rw [hsh] at e1
  cases e1
  have e3' : some (([] : List (List Int)), r.drop n) = some (xs, t) := e3
  cases e3'
  obtain ⟨d1, d2, d3⟩ := at_drop hl
  have hi1 := hin _ (by rw [e5]; exact List.mem_cons_self)
  have lt : (r.take n).length = n := by
    rw [List.length_take]
    omega
  have ln : ((r.take n).map Int.toNat).length = n := by rw [List.length_map, lt]
  refine ⟨c, (r.take n).map Int.toNat, [], x ((r.take n).map Int.toNat), _, a + 1 + n, f', cs', e5, ⟨c9, d1, ?_, by rw [ln, hn], by rw [ln]; omega, .inr ⟨hm, rfl, by rw [ln]⟩, (by show 0 ≤ 30; omega), by omega, by omega, hd _ ln, hi _ lt⟩, ?_⟩
  · rw [ln, d2, nonneg_is (hb _ lt hi1)]
  · rw [← e4, ← d2, List.drop_drop]
theorem turn_of {l : List Int} {a f : Nat} {cs : List (List (List Int))} (ha : a < l.length) (h : PyFlat.calls PyOc06.shape f (l.drop a) = some cs) (hin : ∀ c ∈ cs, PyInside.call PyOc06.bound c = true) :
    ∃ (c : Nat) (nums row : List Nat) (x : Oc06.Call) (raw : List (List Int)) (b f' : Nat) (cs' : List (List (List Int))), cs = raw :: cs' ∧ Turn l a c nums row x raw b ∧ PyFlat.calls PyOc06.shape f' (l.drop b) = some cs' := by
  obtain ⟨p, r, hl⟩ : ∃ p r, l.drop a = p :: r := by
    cases e : l.drop a with
    | nil =>
      have z := congrArg List.length e
      rw [List.length_drop] at z
      simp at z
      omega
    | cons p r => exact ⟨p, r, rfl⟩
  have hs : ∃ n k, PyOc06.shape p = some (n, k) := by
    rw [hl] at h
    obtain ⟨_, n, k, _, _, _, e, _⟩ := calls_is h
    exact ⟨n, k, e⟩
  obtain ⟨n, k, hs⟩ := hs
  rcases shape_is hs with rfl | rfl | rfl | rfl | rfl | rfl | rfl | rfl | rfl
  · exact turn_num (c := 0) (n := 0) (x := fun _ => .begins) (by decide) hl rfl rfl (by decide) (fun zs hz _ z hm => by rw [List.length_eq_zero_iff.mp hz] at hm; cases hm) (fun _ _ => .d0 _ _) (fun zs hz => by rw [List.length_eq_zero_iff.mp hz]; rfl) h hin
  · exact turn_row (c := 1) (mk := .line) (by decide) hl rfl rfl (by decide) rfl (fun _ => .d1 _ _) (fun _ => rfl) h hin
  · refine turn_num (c := 2) (n := 1) (x := fun ns => .drop (ns.getD 0 0)) (by decide) hl rfl rfl (by decide) (fun zs hz hb => ?_) (fun ns hz => ?_) (fun zs hz => ?_) h hin
    · match zs, hz with
      | [i], _ =>
        have hb' : (PyInside.within 0 4294967295 i && true && true) = true := hb
        intro z hm
        rw [List.mem_singleton] at hm
        subst hm
        exact within_nn (by simpa using hb')
    · match ns, hz with
      | [i], _ => exact .d2 i []
    · match zs, hz with
      | [i], _ => rfl
  · exact turn_row (c := 3) (mk := .words) (by decide) hl rfl rfl (by decide) rfl (fun _ => .d3 _ _) (fun _ => rfl) h hin
  · refine turn_num (c := 4) (n := 3) (x := fun ns => .quiet (ns.getD 0 0) (ns.getD 1 0) (ns.getD 2 0)) (by decide) hl rfl rfl (by decide) (fun zs hz hb => ?_) (fun ns hz => ?_) (fun zs hz => ?_) h hin
    · match zs, hz with
      | [i, n, m], _ =>
        have hb' : ((PyInside.within 0 4294967295 i && (PyInside.within 0 4294967295 n && (PyInside.within 0 4294967295 m && true))) && true) = true := hb
        simp only [Bool.and_true, Bool.and_eq_true] at hb'
        intro z hm
        simp only [List.mem_cons, List.not_mem_nil, or_false] at hm
        rcases hm with rfl | rfl | rfl
        · exact within_nn hb'.1
        · exact within_nn hb'.2.1
        · exact within_nn hb'.2.2
    · match ns, hz with
      | [i, n, m], _ => exact .d4 i n m []
    · match zs, hz with
      | [i, n, m], _ => rfl
  · refine turn_num (c := 5) (n := 2) (x := fun ns => .part (ns.getD 0 0) (ns.getD 1 0)) (by decide) hl rfl rfl (by decide) (fun zs hz hb => ?_) (fun ns hz => ?_) (fun zs hz => ?_) h hin
    · match zs, hz with
      | [n, m], _ =>
        have hb' : ((PyInside.within 0 4294967295 n && (PyInside.within 0 4294967295 m && true)) && true) = true := hb
        simp only [Bool.and_true, Bool.and_eq_true] at hb'
        intro z hm
        simp only [List.mem_cons, List.not_mem_nil, or_false] at hm
        rcases hm with rfl | rfl
        · exact within_nn hb'.1
        · exact within_nn hb'.2
    · match ns, hz with
      | [n, m], _ => exact .d5 n m []
    · match zs, hz with
      | [n, m], _ => rfl
  · exact turn_row (c := 6) (mk := .under) (by decide) hl rfl rfl (by decide) rfl (fun _ => .d6 _ _) (fun _ => rfl) h hin
  · exact turn_row (c := 7) (mk := .by_) (by decide) hl rfl rfl (by decide) rfl (fun _ => .d7 _ _) (fun _ => rfl) h hin
  · exact turn_num (c := 8) (n := 0) (x := fun _ => .parts) (by decide) hl rfl rfl (by decide) (fun zs hz _ z hm => by rw [List.length_eq_zero_iff.mp hz] at hm; cases hm) (fun _ _ => .d8 _ _) (fun zs hz => by rw [List.length_eq_zero_iff.mp hz]; rfl) h hin
/-- what is told from a state on -/
def toldFrom (axs : List Oc.Axiom) (cs : List (List (List Int))) : List Int := PyFlat.told (PyFlat.played Oc06Neutral.step ⟨axs⟩ (cs.map PyOc06.whole))
theorem told_cons {axs : List Oc.Axiom} {raw : List (List Int)} {cs : List (List (List Int))} {x : Oc06.Call} (h : Oc06Neutral.callOf (PyOc06.whole raw) = some x) :
    toldFrom axs (raw :: cs) = (((Oc06Neutral.out (Oc06.step ⟨axs⟩ x).2).length : Nat) : Int) :: (Oc06Neutral.out (Oc06.step ⟨axs⟩ x).2 ++ toldFrom (Oc06.step ⟨axs⟩ x).1.axioms cs) := by
  have e : Oc06Neutral.step ⟨axs⟩ (PyOc06.whole raw) = ((Oc06.step ⟨axs⟩ x).1, Oc06Neutral.out (Oc06.step ⟨axs⟩ x).2) := by
    unfold Oc06Neutral.step
    rw [h]
  unfold toldFrom
  rw [List.map_cons]
  show PyFlat.told ((Oc06Neutral.step ⟨axs⟩ (PyOc06.whole raw)).2 :: PyFlat.played Oc06Neutral.step (Oc06Neutral.step ⟨axs⟩ (PyOc06.whole raw)).1 (cs.map PyOc06.whole)) = _
  rw [e]
  rfl
/-- what is asked, and what is due -/
theorem asked_is {l : List Int} (h : PyOc06.answers_asked l = true) : ∃ (cs : List (List (List Int))), PyFlat.calls PyOc06.shape l.length l = some cs ∧ (∀ c ∈ cs, PyInside.call PyOc06.bound c = true) ∧ toldFrom [] cs = PyOc06.answers l ∧ (PyOc06.answers l).length ≤ 10000000 := by
  unfold PyOc06.answers_asked at h
  split at h
  · cases h
  · rename_i cs e
    simp only [Bool.and_eq_true] at h
    obtain ⟨⟨⟨⟨_, _⟩, h1⟩, _⟩, h2⟩ := h
    refine ⟨cs, e, List.all_eq_true.mp h1, ?_, of_decide_eq_true h2⟩
    unfold PyOc06.answers PyOc06.calls
    rw [e]
    rfl
end Ax

namespace Ax
open PySem PySem.Spec PyProof.Rows L2
/-! ### a list out of sight while an expression runs -/
section
variable {X : Cx} {pins : List (Addr × Obj)} {σ : L2.St} {H H1 : Hp} {s s1 : Shared}
theorem hide_at {f : Addr} {xs : List V} (I : Inv X pins σ H s) (hf : H f = some (.lst xs)) : f ∉ X.fs ∧ f ≠ X.env.locals ∧ (∀ x c, X.env.cells.lookup x = some c → c ≠ f) ∧ (∀ o, X.s_0.heap.get? f = some o → f ∉ X.ex → X.H_0 f ≠ none) ∧ ∀ p ∈ X.pn ++ pins, p.1 ≠ f := by
  have nn : ∀ {b : Addr}, H b = none → b ≠ f := fun e z => by
    rw [z, hf] at e
    cases e
  refine ⟨fun hb => ?_, fun z => nn I.free z.symm, fun x c e => nn (I.freeC x c e), fun o e hx n => nn (I.base.free f o e n hx) rfl, fun p hp => nn (I.pin p hp).2.1⟩
  obtain ⟨_, o, ho, _⟩ := I.ok.funs.mem hb
  exact nn (I.base.free f o ho (I.ok.frf f hb) fun z => I.ok.exfs f z hb) rfl
/-- out of sight: its object is pinned -/
theorem hide_in {f : Addr} {xs : List V} (I : Inv X pins σ H s) (hf : H f = some (.lst xs)) :
    ∃ (its : List Value) (n : Nat), xs.length ≤ sizeLine ∧ Vals xs its ∧ Inv X ((f, { cls := .type "list", data := .seq its.toArray n }) :: pins) σ (delH H f) s := by
  obtain ⟨hz, its, n, r, e⟩ := (show ObjOk X.prog X.w H s.heap f (.lst xs) from I.hok f _ hf)
  obtain ⟨a1, a2, a3, a4, a5⟩ := hide_at I hf
  have nn : ∀ {b : Addr} {u : HO}, H b = some u → (∀ ys, u ≠ .lst ys) → b ≠ f := fun e h z => by
    rw [z, hf] at e
    exact h xs (Option.some.inj e).symm
  have del : ∀ {b : Addr}, H b = none → delH H f b = none := fun {b} e => by
    by_cases hb : b = f
    · rw [hb]; exact delH_same
    · rw [delH_ne hb]; exact e
  have kp' : ∀ {b : Addr} {u : HO}, H b = some u → (∀ ys, u ≠ .lst ys) → delH H f b = some u := fun e h => by
    rw [delH_ne (nn e h)]
    exact e
  refine ⟨its, n, hz, r, I.ok, I.os, I.bare, ⟨I.base.keep, I.base.slot, fun b o e1 e2 e3 => del (I.base.free b o e1 e2 e3), I.base.there, fun b ys q => kp' (I.base.tups b ys q) (fun _ z => by cases z), fun b o u q => kp' (I.base.frzs b o u q) (fun _ z => by cases z), fun b ps q => ?_⟩,
    I.loc, I.cell, del I.free, fun x c e => del (I.freeC x c e), fun p hp => ?_, fun b u q => ?_, I.len⟩
  · obtain ⟨more, z⟩ := I.base.tbls b ps q
    exact ⟨more, kp' z (fun _ z => by cases z)⟩
  · rcases List.mem_append.mp hp with hp | hp
    · obtain ⟨b1, b2, b3⟩ := I.pin p (List.mem_append_left _ hp)
      exact ⟨b1, del b2, b3⟩
    · rcases List.mem_cons.mp hp with z | hp
      · rw [z]
        exact ⟨e, delH_same, a2, a1, fun v z => by cases z⟩
      · obtain ⟨b1, b2, b3⟩ := I.pin p (List.mem_append_right _ hp)
        exact ⟨b1, del b2, b3⟩
  · have hb : b ≠ f := fun z => by rw [z, delH_same] at q; cases q
    rw [delH_ne hb] at q
    exact (I.hok b u q).stay (fun _ _ _ z => z) (fun c z => kp' z (fun _ z => by cases z)) fun c ys z => kp' z (fun _ z => by cases z)
/-- in sight again -/
theorem hide_out {f : Addr} {xs : List V} {its : List Value} {n : Nat} (I : Inv X pins σ H s) (hf : H f = some (.lst xs)) (hz : xs.length ≤ sizeLine) (r : Vals xs its) (J : Inv X ((f, { cls := .type "list", data := .seq its.toArray n }) :: pins) σ H1 s1) :
    Inv X pins σ (upd H1 f (.lst xs)) s1 ∧ H1 f = none := by
  obtain ⟨a1, a2, a3, a4, a5⟩ := hide_at I hf
  obtain ⟨e, n1, _⟩ := J.pin (f, { cls := .type "list", data := .seq its.toArray n }) (List.mem_append_right _ List.mem_cons_self)
  have e : s1.heap.get? f = some { cls := .type "list", data := .seq its.toArray n } := e
  have n1 : H1 f = none := n1
  have kp' : ∀ {b : Addr} {u : HO}, H1 b = some u → upd H1 f (.lst xs) b = some u := fun q => by
    rw [upd_ne (ne_of_none q n1)]
    exact q
  have no' : ∀ {b : Addr}, b ≠ f → H1 b = none → upd H1 f (.lst xs) b = none := fun hb q => by
    rw [upd_ne hb]
    exact q
  refine ⟨⟨J.ok, J.os, J.bare, ⟨J.base.keep, J.base.slot, fun b o e1 e2 e3 => no' (fun z => a4 o (by rw [← z]; exact e1) (by rw [← z]; exact e3) (by rw [← z]; exact e2)) (J.base.free b o e1 e2 e3), J.base.there, fun b ys q => kp' (J.base.tups b ys q), fun b o u q => kp' (J.base.frzs b o u q), fun b ps q => ?_⟩,
    J.loc, J.cell, no' (Ne.symm a2) J.free, fun x c q => no' (a3 x c q) (J.freeC x c q), fun p hp => ?_, fun b u q => ?_, J.len⟩, n1⟩
  · obtain ⟨more, z⟩ := J.base.tbls b ps q
    exact ⟨more, kp' z⟩
  · have hp' : p ∈ X.pn ++ (f, { cls := .type "list", data := .seq its.toArray n }) :: pins := by
      rcases List.mem_append.mp hp with hp | hp
      · exact List.mem_append_left _ hp
      · exact List.mem_append_right _ (List.mem_cons_of_mem _ hp)
    obtain ⟨b1, b2, b3⟩ := J.pin p hp'
    exact ⟨b1, no' (a5 p hp) b2, b3⟩
  · by_cases hb : b = f
    · rw [hb, upd_same] at q
      cases q
      rw [hb]
      exact ⟨hz, its, n, r, e⟩
    · rw [upd_ne hb] at q
      exact (J.hok b u q).stay (fun _ _ _ z => z) (fun c z => kp' z) fun c ys z => kp' z
def tHide (te : TE) : TE := fun σ H Q => ∃ f xs, H f = some (.lst xs) ∧ te σ (delH H f) fun v H1 => H1 f = none → Q v (upd H1 f (.lst xs))
theorem pe_hide {e : Expr} {te : TE} (he : PE X e te) : PE X e (tHide te) := by
  refine ⟨fun pins s σ H Q I h => ?_⟩
  obtain ⟨f, xs, hf, q⟩ := h
  obtain ⟨its, n, hz, r, I0⟩ := hide_in I hf
  refine thn (he.run _ s σ _ _ I0 q) fun u s1 ⟨v, H1, J, rv, q1⟩ => ?_
  obtain ⟨I1, n1⟩ := hide_out I hf hz r J
  exact ⟨v, _, I1, rv, q1 n1⟩
end
end Ax

namespace Ax
open PySem PySem.Spec PyProof.Rows L2
open LamX (CodeO TabS TabB)
theorem mn_at : ∀ {c : Nat}, c < 9 → ((([0, 0, 1, 0, 3, 2, 0, 0, 0] : List Int).map V.int)[c]? : Option V) = some (vI (nOf c))
  | 0, _ => rfl
  | 1, _ => rfl
  | 2, _ => rfl
  | 3, _ => rfl
  | 4, _ => rfl
  | 5, _ => rfl
  | 6, _ => rfl
  | 7, _ => rfl
  | 8, _ => rfl
  | n + 9, h => absurd h (by omega)
theorem kp_del {G G1 : Hp} {f : Addr} (s : Same G G1) : Kp (delH G f) (delH G1 f) := fun b o e _ => by
  have hb : b ≠ f := fun z => by rw [z, delH_same] at e; cases e
  rw [delH_ne hb] at e ⊢
  exact s b o e
theorem kp_hid {G : Hp} {f : Addr} {o : HO} (n : G f = none) : Kp G (delH (upd G f o) f) := fun b u e _ => by
  have hb : b ≠ f := ne_of_none e n
  rw [delH_ne hb, upd_ne hb]
  exact e
theorem del_upd {G : Hp} {f : Addr} {o : HO} : Kp (delH G f) (delH (upd G f o) f) := fun b u e _ => by
  have hb : b ≠ f := fun z => by rw [z, delH_same] at e; cases e
  rw [delH_ne hb] at e ⊢
  rw [upd_ne hb]
  exact e
theorem del_at {G : Hp} {f b : Addr} {u : HO} (e : G b = some u) (hb : b ≠ f) : delH G f b = some u := by
  rw [delH_ne hb]
  exact e
theorem tab_of {H H' : Hp} {Pt f : Addr} {q : Str} (k : ∀ b o, H b = some o → b ≠ f → H' b = some o) {xs : List V} (hf : H f = some (.lst xs)) (t : TabS H Pt q) : TabS H' Pt q := by
  obtain ⟨qs, h1, h2, h3⟩ := t
  refine ⟨qs, k _ _ h1 (fun z => by rw [z, hf] at h1; cases h1), h2, fun pos cv e => ?_⟩
  obtain ⟨c', e1, e2⟩ := h3 pos cv e
  exact ⟨c', e1, k _ _ e2 fun z => by rw [z, hf] at e2; unfold CodeO at e2; cases e2⟩
theorem SqL.at {K : PySem.W.Frag} {H : Hp} {a : Addr} {xs : List V} (h : SqL K H a xs) {f : Addr} (hf : a ≠ f) : SqL K (delH H f) a xs := by
  rcases h with (h | ⟨o, h⟩) | h
  · exact .inl (.inl (del_at h hf))
  · exact .inl (.inr ⟨o, del_at h hf⟩)
  · exact .inr h
def spAns (A : Ad) (K : PySem.W.Frag) (Pt : Addr) : Sp := fun vs H Q _ => ∃ (a : Addr) (l : List Int), vs = [.ref a] ∧ SqL K H a (l.map V.int) ∧ PyOc06.answers_asked l = true ∧ TabS H Pt qL ∧ ∀ p H', H' p = some (.lst ((PyOc06.answers l).map V.int)) → Q (.ref p) H'
abbrev N_ans : List Str := ["calls", "desk", "found", "at", "call", "behind", "numbers", "row", "there"]
section
variable {P : Program} {w : World} {K : PySem.W.Frag} {mg : Str → Option Value} {base : Heap} {A : Ad}
theorem sc_ans : FnScope N_ans ["calls"] (defScope sAns) := ⟨rfl, rfl, rfl, by decide +kernel, rfl, by decide +kernel, by decide +kernel⟩
theorem ok_ans (T : Txt K mg A) {c Pt : Addr} (AK : AnsK K A c) (TB : TabB base mg c Pt) : DefOk P w K mg base CX0 51 A.ans ["calls"] (spAns A K Pt) := by
  refine T.d_ans.ok sc_ans (fun vs H Q E h => ?_) (fun cdv B outer s H vs Q E hr h => ?_)
  · obtain ⟨a, l, rfl, _⟩ := h
    rfl
  have hr1 : Room (1 + 1) _ := hr.mono (by omega)
  obtain ⟨tm, mMN, sMN⟩ := T.tMN.ex
  obtain ⟨tw, mWR, sWR⟩ := T.tWR.ex
  refine ⟨_, pss_cons (ps_set (i := 1) sc_ans.nd rfl (.inl rfl) (dmake0 T.mk_d (ok_dI T) hr1 T.g_d pass0))
    (pss_cons (ps_set (i := 2) sc_ans.nd rfl (.inl rfl) (pe_lst pa_nil))
    (pss_cons (ps_set (i := 3) sc_ans.nd rfl (.inl rfl) pe_int)
    (pss_cons (ps_while PassesOwn.never (pt_cmpR op_lt (pv 3) (lenE T.z_len (pv 0)) (nomark _))
      (pss_cons (ps_set (i := 4) sc_ans.nd rfl (.inl rfl) (pe_ix ix_list (pv 0) (pv 3) (fun _ _ => rfl)))
      (pss_cons (ps_set (i := 5) sc_ans.nd rfl (.inl rfl) (pe_op op_add (pe_op op_add (pv 3) pe_int) (pe_ix ix_tup (pe_glob rfl mMN (v := .ref tm) rfl) (pv 4) (fun _ _ => rfl))))
      (pss_cons (ps_set (i := 6) sc_ans.nd rfl (.inl rfl) (pe_slice sl_list (pv 0) (po_some (pe_op op_add (pv 3) pe_int)) (po_some (pv 5))))
      (pss_cons (ps_set (i := 7) sc_ans.nd rfl (.inl rfl) (pe_lst pa_nil))
      (C8.pss_cut (ps_if (pt_cmpR op_in_seq (pv 4) (pe_glob rfl mWR (v := .ref tw) rfl) (by rfl))
        (pss_cons (ps_set (i := 7) sc_ans.nd rfl (.inl rfl) (pe_slice sl_list (pv 0) (po_some (pe_op op_add (pv 5) pe_int)) (po_some (pe_op op_add (pe_op op_add (pv 5) pe_int) (pe_ix ix_list (pv 0) (pv 5) (fun _ _ => rfl))))))
          (pss_one (ps_aug (i := 5) sc_ans.nd rfl (.inl rfl) (pe_op op_add pe_int (pe_ix ix_list (pv 0) (pv 5) (fun _ _ => rfl))) ip_add))) pss_nil)
      (pss_cons (ps_set (i := 3) sc_ans.nd rfl (.inl rfl) (pv 5))
      (pss_cons (ps_set (i := 8) sc_ans.nd rfl (.inl rfl) (pe_hide (dcall (ok_and T AK TB) hr T.g_and_ pass0 (pa_cons (pv 1) (pa_cons (pv 4) (pa_cons (pv 6) (pa_cons (pv 7) pa_nil)))))))
      (pss_cons (ps_expr (appE (pv 2) (lenE T.z_len (pv 8))))
      (pss_one (ps_expr (pe_bm PySem.F.plainAttrs_list PySem.F.slot_list_extend PySem.F.type_list_extend mt_extend (pv 2) (pa_cons (pv 8) pa_nil)))))))))))))
    (pss_one (ps_ret (pv 2)))))), ?_⟩
  obtain ⟨a, l, rfl, hS, hask, hT, q⟩ := h
  obtain ⟨cs0, hc0, hin0, hdue, hsz⟩ := asked_is hask
  intro d dx nd nx ne
  refine ⟨d, dx, rfl, upd_same, fun G0 k0 hD0 => ⟨rfl, ?_⟩⟩
  have s0 : Same H G0 := fun b o e => by
    have hb : b ≠ d := ne_of_none e nd
    refine k0 b o ?_ hb
    rw [upd_ne hb, upd_ne (ne_of_none e nx)]
    exact e
  refine ⟨(by show 0 ≤ sizeLine; decide), fun f hf => ?_⟩
  have sF := same_upd s0 (s0.free hf) (.lst [])
  have hdf : d ≠ f := by
    obtain ⟨dx', l0, us, e1, _⟩ := hD0.ex
    exact ne_of_none e1 hf
  have nf : H f = none := s0.free hf
  refine ⟨fun m σ G => ∃ (i fu : Nat) (cs : List (List (List Int))) (axs : List Oc.Axiom) (dn : List Int) (v4 v5 v6 v7 v8 : Option V), m = l.length - i ∧ σ = [some (.ref a), some (.ref d), some (.ref f), some (vI i), v4, v5, v6, v7, v8] ∧ Kp H G ∧ DeskAt A (delH G f) d axs ∧ G f = some (.lst (dn.map V.int)) ∧ TabS G Pt qL ∧ i ≤ l.length ∧
    PyFlat.calls PyOc06.shape fu (l.drop i) = some cs ∧ (∀ c ∈ cs, PyInside.call PyOc06.bound c = true) ∧ dn ++ toldFrom axs cs = PyOc06.answers l, ?_, ?_⟩
  · refine ⟨_, 0, l.length, cs0, [], [], none, none, none, none, none, rfl, rfl, kp_of sF, hD0.kp ?_, upd_same, hT.ext sF, Nat.zero_le _, hc0, hin0, hdue⟩
    exact kp_hid hf
  rintro m σ G ⟨i, fu, cs, axs, dn, v4, v5, v6, v7, v8, rfl, rfl, kG, hD, hGf, hTG, hil, hcs, hin, hsum⟩
  have hSG := SqL.kp kG hS
  refine ⟨_, rfl, _, rfl, a, _, rfl, .inl hSG, _, _, rfl, rfl, _, rfl, ?_⟩
  rw [List.length_map]
  show if decide ((i : Int) < ((l.length : Nat) : Int)) = true then _ else _
  rw [ltI]
  by_cases hlt : i < l.length
  rotate_left
  · refine dec_false hlt ⟨_, rfl, q f G ?_⟩
    have e : l.drop i = [] := List.drop_eq_nil_of_le (by omega)
    rw [e] at hcs
    have e2 : cs = [] := by
      cases fu <;> exact (Option.some.inj hcs).symm
    rw [e2] at hsum
    have e3 : dn ++ [] = PyOc06.answers l := hsum
    rw [← e3, List.append_nil]
    exact hGf
  refine dec_true hlt ⟨_, fun σ' G' h => h, ?_⟩
  obtain ⟨c, nums, row, x, raw, b, fu', cs', rfl, Tn, hcs'⟩ := turn_of hlt hcs hin
  have hcat : (l.map V.int)[i]? = some (vI c) := by rw [List.getElem?_map, Tn.hc]; rfl
  refine ⟨_, rfl, _, rfl, a, _, _, _, rfl, rfl, hSG, atI_nat hcat, ?_⟩
  have hnat : ((([0, 0, 1, 0, 3, 2, 0, 0, 0] : List Int).map V.int)[c]? : Option V) = some (vI nums.length) := by
    rw [Tn.len]
    exact mn_at Tn.c9
  refine ⟨_, rfl, _, _, rfl, rfl, _, rfl, tm, _, _, _, rfl, rfl, sMN _, atI_nat hnat, _, _, rfl, rfl, ?_⟩
  -- numbers
  refine ⟨_, rfl, _, rfl, _, _, rfl, rfl, _, rfl, _, rfl, _, rfl, a, _, rfl, hSG, fun p hp => ?_⟩
  have eC : cutV (l.map V.int) (some ((i : Int) + 1)) (some ((i : Int) + 1 + (nums.length : Int))) = nums.map vI := by
    have z := cut_nat (xs := l.map V.int) (i := i + 1) (j := i + 1 + nums.length) (by rw [List.length_map]; exact Tn.sat)
    rw [Nat.add_sub_cancel_left, ← List.map_drop, ← List.map_take, Tn.num, ← vI_map] at z
    exact z
  rw [eC]
  have sP : Same G (upd G p (.lst (nums.map vI))) := same_new hp _
  refine ⟨(by show 0 ≤ sizeLine; decide), fun r hr => ?_⟩
  have sR := same_upd sP (sP.free hr) (.lst [])
  have hpr : p ≠ r := ne_of_none upd_same hr
  have hfr : f ≠ r := ne_of_none (sP _ _ hGf) hr
  have hfp : f ≠ p := ne_of_none hGf hp
  refine ⟨fun σ' G' => ∃ rr, σ' = [some (.ref a), some (.ref d), some (.ref f), some (vI i), some (vI c), some (vI b), some (.ref p), some (.ref rr), v8] ∧ Same G G' ∧ G' p = some (.lst (nums.map vI)) ∧ G' rr = some (.lst (row.map vI)) ∧ rr ≠ f, ?_, ?_⟩
  · refine ⟨_, rfl, tw, _, rfl, .inr (sWR _), rfl, rfl, _, rfl, ?_⟩
    have eI : inV (vI c) (([1, 3, 6, 7] : List Int).map V.int) = decide (c ∈ [1, 3, 6, 7]) := inVn c [1, 3, 6, 7]
    show if inV (vI c) (([1, 3, 6, 7] : List Int).map V.int) = true then _ else _
    rw [eI]
    rcases Tn.rw_ with ⟨g1, g2, g3, g4⟩ | ⟨g1, g2, g3⟩
    · have hrat : (l.map V.int)[i + 1 + nums.length]? = some (vI row.length) := by rw [List.getElem?_map, g2]; rfl
      have hSR := SqL.kp (kp_of sR) hSG
      refine dec_true g1 ⟨_, rfl, _, rfl, _, _, rfl, rfl, _, rfl, _, rfl, _, _, rfl, rfl, _, rfl, _, rfl, a, _, _, _, rfl, rfl, hSR, atI_nat hrat, _, _, rfl, rfl, _, rfl, a, _, rfl, hSR, fun rr hrr => ?_⟩
      have sRR := same_upd sR (sR.free hrr) (.lst (row.map vI))
      have eR : cutV (l.map V.int) (some ((i : Int) + 1 + (nums.length : Int) + 1)) (some ((i : Int) + 1 + (nums.length : Int) + 1 + (row.length : Int))) = row.map vI := by
        have z := cut_nat (xs := l.map V.int) (i := i + 1 + nums.length + 1) (j := i + 1 + nums.length + 1 + row.length) (by rw [List.length_map, ← g4]; exact Tn.le)
        rw [Nat.add_sub_cancel_left, ← List.map_drop, ← List.map_take, g3, ← vI_map] at z
        exact z
      rw [eR]
      have hpr2 : p ≠ rr := ne_of_none (H := upd (upd G p (.lst (nums.map vI))) r (.lst [])) (by rw [upd_ne hpr]; exact upd_same) hrr
      have hfr2 : f ≠ rr := ne_of_none (sR _ _ hGf) hrr
      refine ⟨_, rfl, _, rfl, _, rfl, a, _, _, _, rfl, rfl, SqL.kp (kp_of sRR) hSG, atI_nat hrat, _, _, rfl, rfl, _, _, rfl, rfl, rr, ?_, sRR, ?_, upd_same, Ne.symm hfr2⟩
      · have e5 : V.int ((i : Int) + 1 + (nums.length : Int) + (1 + (row.length : Int))) = vI b := congrArg V.int (by rw [g4]; omega)
        rw [← e5]
        rfl
      · rw [upd_ne hpr2, upd_ne hpr]
        exact upd_same
    · refine dec_false g1 ⟨r, ?_, sR, ?_, ?_, Ne.symm hfr⟩
      · rw [g3]
        rfl
      · rw [upd_ne hpr]
        exact upd_same
      · rw [g2]
        exact upd_same
  rintro σ' G' ⟨rr, rfl, sG, hp', hr', hrf⟩
  refine ⟨_, rfl, ?_⟩
  have hGf' := sG _ _ hGf
  have hD' : DeskAt A (delH G' f) d axs := hD.kp (kp_del sG)
  have hTG' := hTG.ext sG
  refine ⟨f, _, hGf', _, rfl, _, rfl, _, rfl, _, rfl, d, p, rr, axs, c, nums, row, x, rfl, Tn.deed, hD', SqL.of (del_at hp' (Ne.symm hfp)), SqL.of (del_at hr' hrf), Tn.most, tab_of (fun b o e hb => del_at e hb) hGf' hTG', ?_⟩
  intro t2 G2 k2 hn2 ht2 hD2 hT2 hf2
  rw [told_cons Tn.is] at hsum
  generalize Oc06Neutral.out (Oc06.step ⟨axs⟩ x).2 = ans at *
  generalize (Oc06.step ⟨axs⟩ x).1.axioms = axs' at *
  have htf : t2 ≠ f := ne_of_none ht2 hf2
  have hlen : dn.length + (1 + (ans.length + (toldFrom axs' cs').length)) ≤ 10000000 := by
    have z := congrArg List.length hsum
    rw [List.length_append, List.length_cons, List.length_append] at z
    omega
  have hsl := sizeLine_eq
  have ht3 : upd G2 f (.lst (dn.map V.int)) t2 = some (.lst (ans.map V.int)) := by rw [upd_ne htf]; exact ht2
  refine ⟨_, rfl, .inl ⟨rfl, _, SqL.of upd_same⟩, _, rfl, t2, _, rfl, .inl (SqL.of ht3), f, _, _, rfl, rfl, upd_same, by rw [List.length_map]; omega, ?_⟩
  have ht4 : upd (upd G2 f (.lst (dn.map V.int))) f (.lst (dn.map V.int ++ [.int ((ans.map V.int).length : Nat)])) t2 = some (.lst (ans.map V.int)) := by rw [upd_ne htf]; exact ht3
  refine ⟨_, rfl, .inl ⟨rfl, _, SqL.of upd_same⟩, _, rfl, f, t2, _, _, rfl, rfl, upd_same, ht4, by rw [List.length_append, List.length_singleton, List.length_map, List.length_map]; omega, ?_⟩
  have kk : Kp G2 (upd (upd (upd G2 f (.lst (dn.map V.int))) f (.lst (dn.map V.int ++ [.int ((ans.map V.int).length : Nat)]))) f (.lst (dn.map V.int ++ [.int ((ans.map V.int).length : Nat)] ++ ans.map V.int))) := fun b o e _ => by
    have hb : b ≠ f := ne_of_none e hf2
    rw [upd_ne hb, upd_ne hb, upd_ne hb]
    exact e
  refine ⟨l.length - b, by have := Tn.lt; have := Tn.le; omega, b, fu', cs', axs', dn ++ ((ans.length : Int) :: ans), _, _, _, _, _, rfl, rfl, fun u o e n => ?_, ?_, ?_, ?_, Tn.le, hcs', fun c hc => hin c (List.mem_cons_of_mem _ hc), ?_⟩
  · have hu : u ≠ f := ne_of_none e nf
    exact kk _ _ (k2 _ _ (del_at (sG _ _ (kG u o e n)) hu) (ne_of_none e nd) n) n
  · refine hD2.kp (kp_trans (kp_trans (kp_hid hf2) del_upd) del_upd)
  · rw [upd_same, List.map_append, List.map_cons, List.length_map, List.append_assoc]
    rfl
  · obtain ⟨qs, g1, g2, g3⟩ := hT2
    have nfx : ∀ {u : Addr} {o : HO}, G2 u = some o → (upd (upd (upd G2 f (.lst (dn.map V.int))) f (.lst (dn.map V.int ++ [.int ((ans.map V.int).length : Nat)]))) f (.lst (dn.map V.int ++ [.int ((ans.map V.int).length : Nat)] ++ ans.map V.int))) u = some o := fun {u o} e => by
      have hu : u ≠ f := ne_of_none e hf2
      rw [upd_ne hu, upd_ne hu, upd_ne hu]
      exact e
    refine ⟨qs, nfx g1, g2, fun pos cv e => ?_⟩
    obtain ⟨c', e1, e2⟩ := g3 pos cv e
    exact ⟨c', e1, nfx e2⟩
  · rw [← hsum, List.append_assoc]
    rfl
end
end Ax

namespace Ax
open PySem PySem.Spec PyProof.Rows L2
open PySem.W (WData Codec OpenSpec Well WellAll ReadsW ReadsAllW)
open LamX (CodeO TabS TabB)
/-! ### the end of a statement, with a table of code objects -/
def argT (K : PySem.W.Frag) (h : Heap) (L : List Addr) (Pt : Addr) : Hp := fun b => if b = Pt then some (.tbl #[]) else argH K h L b
theorem spec_callT {P : Program} {w : World} {K : PySem.W.Frag} {mg mb : Str → Option Value} {CX : CXT} {k : Nat} {fa c Pt : Addr} {ps : List Str} {sp : Sp} {z : Shared} {us : List Value} {ds : List WData} {R : PySem.W.WRecords} {cl : Str → Option Addr} {d0 : WData}
    (KX : K.In z.heap) (hG : z.heap.Ns mainGlobals mg) (hB : z.heap.Ns builtinsNs mb) (hBB : ∀ x : Str, x ≠ "__name__" → mb x = bootBuiltins x) (hL : z.heap.NoLimit) (hZ : z.gens = #[])
    (tP : z.heap.get? Pt = some { cls := .none, data := .fields #[] }) (nP : K.lookup Pt = none) (CC : PySem.W.CodeHd z.heap c Pt)
    (hM : ∃ (bm : Addr) (ob : Obj), mg "__builtins__" = some (.ref bm) ∧ bm ≠ builtinsNs ∧ z.heap.get? bm = some ob ∧ ob.cls = .type "module" ∧ ob.dict = some builtinsNs ∧ ob.data = .plain)
    (hW : WellAll w.params z.heap us ds) (hP : plWs ds = true) (hWt : ∀ d ∈ ds, d.weight ≤ 1048576) (hr : Room k callerA)
    (F : ∀ base : Heap, K.In base → base.Ns mainGlobals mg → TabB base mg c Pt → DefOk P w K mg base CX k fa ps sp) (hl : ds.length = ps.length)
    (hS : ∀ (H0 H : Hp) (xs : List V), (∀ b o, H0 b = some o → H b = some o) → H Pt = some (.tbl #[]) → DwAll K H0 xs ds → sp xs H (fun v H' => Dw K H' v d0) fun _ _ _ => False)
    (hX : ∀ H e s', CX [] H z (fun _ _ _ => False) e s' → False) :
    codeAny (model P w) callerA (.call (.ref fa) ⟨us, []⟩) (fun r s' => ∃ u as, r = .ok (.ret u) ∧ ReadsW R cl s'.heap u d0 as ∧ OldK z.heap s'.heap ∧ s'.os = z.os ∧ AllBare s'.gens) z := by
  obtain ⟨L, ho, ar⟩ := area_all ds us hW hP hWt
  have only0 : OnlyF (argH K z.heap L) := argH_only ar
  have ok0 : HOk P w (argH K z.heap L) z.heap := argH_ok ar
  have dw0 := dw_all KX ar ds us hW hP ho
  have rv := vals_toV ho
  -- the table is none of the arguments
  have nA : argH K z.heap L Pt = none := by
    cases q : argH K z.heap L Pt with
    | none => rfl
    | some u =>
      obtain ⟨_, vs, _, _, ⟨e, _⟩ | ⟨e, _⟩⟩ := argH_is ar q
      · rw [tP] at e
        have e' : Data.fields #[] = Data.seq vs.toArray _ := congrArg Obj.data (Option.some.inj e)
        cases e'
      · rw [tP] at e
        have e' : Data.fields #[] = Data.seq vs.toArray _ := congrArg Obj.data (Option.some.inj e)
        cases e'
  have hPt : argT K z.heap L Pt Pt = some (.tbl #[]) := if_pos rfl
  have at_ : ∀ {b : Addr}, b ≠ Pt → argT K z.heap L Pt b = argH K z.heap L b := fun hb => if_neg hb
  have up : ∀ b o, argH K z.heap L b = some o → argT K z.heap L Pt b = some o := fun b o e => by
    rw [at_ (ne_of_none e nA)]
    exact e
  have ok1 : HOk P w (argT K z.heap L Pt) z.heap := fun b u e => by
    by_cases hb : b = Pt
    · rw [hb, hPt] at e
      cases e
      rw [hb]
      exact tP
    · rw [at_ hb] at e
      exact (ok0 b u e).stay (fun _ _ _ q => q) (fun _ q => up _ _ q) fun _ _ q => up _ _ q
  have nK : ∀ b o, K.lookup b = some o → argT K z.heap L Pt b = none := fun b o e => by
    have hb : b ≠ Pt := fun q => by
      rw [q, nP] at e
      cases e
    rw [at_ hb]
    cases q : argH K z.heap L b with
    | none => rfl
    | some u =>
      rw [(argH_is ar q).1] at e
      cases e
  have noD : ∀ {b : Addr} {o : Obj}, z.heap.get? b = some o → (∀ vs n, o.data ≠ .seq vs n) → o.data ≠ .fields #[] → argT K z.heap L Pt b = none := fun {b o} e h1 h2 => by
    have hb : b ≠ Pt := fun q => by
      rw [q, tP] at e
      cases e
      exact h2 rfl
    rw [at_ hb]
    cases q : argH K z.heap L b with
    | none => rfl
    | some u =>
      obtain ⟨_, vs, _, _, ⟨e', _⟩ | ⟨e', _⟩⟩ := argH_is ar q
      · rw [e] at e'
        cases e'
        exact (h1 _ _ rfl).elim
      · rw [e] at e'
        cases e'
        exact (h1 _ _ rfl).elim
  have onlyT : ∀ b u, argT K z.heap L Pt b = some u → b ≠ Pt → ∃ o x, u = .frz o x := fun b u e hb => by
    rw [at_ hb] at e
    rcases only0 b with q | ⟨o, x, q⟩
    · rw [q] at e
      cases e
    · rw [q] at e
      cases e
      exact ⟨o, x, rfl⟩
  have dwT := hS _ _ _ up hPt dw0
  generalize argT K z.heap L Pt = H at hPt ok1 nK noD onlyT dwT
  have gB : ∀ {b : Addr} {o : Obj}, z.heap.get? b = some o → H b = none → (hidT z.heap H).get? b = some o := fun e n => hidT_get e n
  have nsB : ∀ {b : Addr} {m : Str → Option Value}, z.heap.Ns b m → (hidT z.heap H).Ns b m := fun {b m} ⟨o, es, ep, e, d, r⟩ => by
    refine ⟨o, es, ep, gB e (noD e (fun vs n q => ?_) fun q => ?_), d, r⟩
    · rw [d] at q
      cases q
    · rw [d] at q
      cases q
  have kB : K.In (hidT z.heap H) := fun b o e => gB (KX b o e) (nK b o e)
  have md : Mod K mg (hidT z.heap H) := ⟨kB, nsB hG, ⟨mb, nsB hB, hBB⟩, let ⟨mc, h1, h2⟩ := hL; ⟨mc, nsB h1, h2⟩⟩
  have TB : TabB (hidT z.heap H) mg c Pt := by
    refine ⟨?_, ?_, fun q => ?_⟩
    · obtain ⟨o, vs, file, tf, flags, tg, inF, text, tt, e1, r1, r2, r3, r4, r5, r6, r7, r8, hne⟩ := CC
      refine ⟨o, vs, file, tf, flags, tg, inF, text, tt, gB e1 (noD e1 (fun vs n q => ?_) fun q => ?_), r1, r2, r3, r4, r5, r6, r7, r8, hne⟩
      · rw [r2] at q
        cases q
      · rw [r2] at q
        cases q
        simp at r3
    · obtain ⟨bm, ob, b1, b2, b3, b4, b5, b6⟩ := hM
      have n1 : bm ≠ mainGlobals := fun q => by
        obtain ⟨o, es, ep, e, hd, _⟩ := hG
        rw [q, e] at b3
        cases b3
        rw [hd] at b6
        cases b6
      have n2 : bm ≠ Pt := fun q => by
        rw [q, tP] at b3
        cases b3
        cases b6
      refine ⟨bm, ob, b1, b2, n1, n2, gB b3 (noD b3 (fun vs n q => ?_) fun q => ?_), b4, b5, b6⟩
      · rw [b6] at q
        cases q
      · rw [b6] at q
        cases q
    · obtain ⟨o, es, ep, e, hd, _⟩ := hG
      rw [q, tP] at e
      cases e
      cases hd
  have e0 : Env0 P w K mg (hidT z.heap H) callerA [] z H := ⟨rfl, md, fun b o e => of_hidT e, Nat.le_of_eq (hidT_size _ _), trivial, fun b hb => absurd (show b ∈ ([] : List Addr) from hb) (by simp), ok1, .of_eq hZ⟩
  have hlen : us.length = ps.length := by rw [wellAll_len hW]; exact hl
  obtain ⟨fd, Fn, hb⟩ := (F _ kB (nsB hG) TB).ex
  have bz := hb z us KX (by rw [List.append_nil]; exact hlen)
  rw [List.append_nil] at bz
  refine codeAny_mono (Fn.run callerA [] z H ⟨us, []⟩ us (us.map toV) _ _ hr e0 bz rv dwT) fun r s' x => ?_
  cases r with
  | error e => exact (hX H e s' x).elim
  | ok fl =>
    cases fl with
    | next => exact False.elim x
    | brk => exact False.elim x
    | cont => exact False.elim x
    | ret u =>
      obtain ⟨v, H', os, bare, un, ok2, r', q⟩ := x
      have key : ∀ b o, b ≠ Pt → z.heap.get? b = some o → s'.heap.get? b = some o := fun b o hb e => by
        cases q2 : H b with
        | none => exact un.keep b o e q2 (by intro y; exact absurd (show b ∈ ([] : List Addr) from y) (by simp)) (by simp)
        | some u2 =>
          obtain ⟨ob, u3, y⟩ := onlyT b u2 q2 hb
          rw [y] at q2
          have y2 := un.frzs b ob _ q2
          obtain ⟨e1, _⟩ := ok1 b _ q2
          obtain ⟨e2, _⟩ := ok2 b _ y2
          rw [e] at e1
          cases e1
          exact e2
      obtain ⟨more, tm⟩ := un.tbls Pt #[] hPt
      have grown : s'.heap.get? Pt = some { cls := .none, data := .fields (#[] ++ more) } := ok2 Pt _ tm
      have KX' : K.In s'.heap := fun b o e => key b o (fun y => by rw [y, nP] at e; cases e) (KX b o e)
      obtain ⟨as, hrd⟩ := Dw.reads (R := R) (cl := cl) ok2 KX' d0 v u q r'
      refine ⟨u, as, rfl, hrd, ⟨fun b o e => ?_, fun b o e => ?_⟩, os, bare⟩
      · by_cases hb : b = Pt
        · rw [hb] at e ⊢
          rw [tP] at e
          cases e
          exact .inr (.inl ⟨(CC.tab tP).isCodeTable, rfl, #[], more, rfl, grown⟩)
        · exact .inl (key b o hb e)
      · by_cases hb : b = Pt
        · rw [hb]
          exact ⟨_, grown⟩
        · exact ⟨o, key b o hb e⟩
/-- the goal behind the head -/
theorem walk_specT {r : OpenSpec} {k : Nat} {q : Program} {loose : List Str} {XP : (Str → Option Value) → Heap → Prop} {YP : World → Heap → Prop} {d : DefRec} {K : Params → PySem.W.Frag} {ps : List Str} {sp : PySem.W.Frag → Addr → Sp} {c Pt : Addr}
    (hwell : r.wellSaid = true) (hlen : r.args.length = ps.length) (hr : Room k callerA) (hY : ∀ (w : World) (h : Heap), YP w h → (K w.params).In h ∧ h.get? Pt = some { cls := .none, data := .fields #[] })
    (F : ∀ (w : World) (mg : Str → Option Value) (fa : Addr) (h : Heap), YP w h → (K w.params).In h → h.Ns mainGlobals mg → mg d.name = some (.ref fa) →
      (K w.params).lookup Pt = none ∧ PySem.W.CodeHd h c Pt ∧ ∀ base : Heap, (K w.params).In base → base.Ns mainGlobals mg → TabB base mg c Pt → DefOk r.prog w (K w.params) mg base CX0 k fa ps (sp (K w.params) Pt))
    (hS : ∀ (K : PySem.W.Frag) (H0 H : Hp) (xs : List V) (a : Codec.denoteAll r.args), (∀ b o, H0 b = some o → H b = some o) → H Pt = some (.tbl #[]) → Codec.app r.args r.asked a = true → DwAll K H0 xs (Codec.encAll r.args a) →
      sp K Pt xs H (fun v H' => Dw K H' v (r.ret.enc (Codec.app r.args r.f a))) fun _ _ _ => False) :
    PySem.W.WalkOS q loose XP YP r d [] (fun f vs => PySem.call f vs) := by
  intro w s₀ z mg mb G Y fa o pm cd doc dV kV ho hd hcd hD hmg hg args vals as hpre hlay hrd hwl hlo
  obtain ⟨a, e1, e2⟩ := PySem.W.os_pre_some hpre
  obtain ⟨e3, hwi⟩ := Codec.encAll_of_decAll r.args args a e1
  subst e3
  obtain ⟨KX, tP⟩ := hY w _ Y
  obtain ⟨nP, CC, hF⟩ := F w mg fa _ Y KX G.T.g hmg
  refine PySem.W.enter_call (codeAny_mono (spec_callT (R := []) (cl := classAt s₀.heap) (d0 := r.ret.enc (Codec.app r.args r.f a)) KX G.T.g G.T.b G.T.builtins G.T.nolimit hg tP nP CC G.T.bmain hwl (pl_encAll _ _) (layable_weight hlay) hr hF (by rw [encAll_len]; exact hlen)
    (fun H0 H xs hu ht hx => hS (K w.params) H0 H xs a hu ht e2 hx) fun H e s' y => y) fun r' s' hq => ?_)
  obtain ⟨u, as', rfl, h1, h2, h3, h4⟩ := hq
  exact ⟨.inl ⟨u, _, as', rfl, fun _ => rfl, h1, (OpenSpec.post_iff hwell hwi _ _).mpr rfl, fun y => Bool.noConfusion (show false = true from y)⟩, h2, h3, h4⟩
end Ax

namespace Ax
open PySem PySem.Spec PyProof.Rows L2
open LamX (CodeO TabS TabB)
theorem tdef_mk {K : PySem.W.Frag} {x qual : Str} {st : Stmt} {f : Addr} {ps : List Str} {oc : Value} {od an : Option Addr} {osl : Array (Option Value)} {kV doc pm cdv ct : Value}
    (l : K.lookup f = some ⟨oc, od, .func (PySem.W.fnOf x qual (defArgs st) (defBody st) (defScope st) .none kV doc pm an cdv ct), osl⟩) (c : PySem.W.codeIn K cdv qual = true) (k : PySem.W.keepIn K (.ref f) = true)
    (hb : ∀ (kV doc pm : Value) (an : Option Addr) (cdv ct : Value) (us : List Value), us.length = ps.length → bindArgs (PySem.W.fnOf x qual (defArgs st) (defBody st) (defScope st) .none kV doc pm an cdv ct) ⟨us, []⟩ = pure (ps.zip us)) : TDef K x qual st f ps :=
  ⟨⟨_, fun_mk l c k, (fun_mk l c k).binds hb⟩, k⟩
theorem ansk_mk {K : PySem.W.Frag} {A : Ad} {c : Addr} {oc : Value} {od an : Option Addr} {osl : Array (Option Value)} {kV doc pm ct : Value}
    (l : K.lookup A.dAns = some ⟨oc, od, .func (PySem.W.fnOf "answer" "Desk.answer" (defArgs sDAns) (defBody sDAns) (defScope sDAns) .none kV doc pm an (.ref c) ct), osl⟩) (e : PySem.W.codeIn K (.ref c) "Desk.answer" = true) (k : PySem.W.keepIn K (.ref A.dAns) = true) : AnsK K A c :=
  ⟨⟨_, _, _, _, _, _, _, _, _, l, e, (fun_mk (x := "answer") (qual := "Desk.answer") (st := sDAns) l e k).binds fun _ _ _ _ _ _ us hl => match us, hl with | [_, _, _, _], _ => rfl⟩, k⟩
structure TupF (K : PySem.W.Frag) (x : Str) (ns : List Int) : Prop where
  ex : ∃ a, PySem.W.nsIn K mainGlobals x = some (some (.ref a)) ∧ ∃ (od : Option Addr) (its : Array Value) (n : Nat) (sl : Array (Option Value)), K.lookup a = some ⟨.type "tuple", od, .seq its n, sl⟩ ∧ its.size ≤ sizeLine ∧ Vals (ns.map V.int) its.toList
theorem TupF.get {K : PySem.W.Frag} {x : Str} {ns : List Int} {h : Heap} {mg : Str → Option Value} (F : TupF K x ns) (X : K.In h) (G : h.Ns mainGlobals mg) : TupG K mg x ns := by
  obtain ⟨a, e, od, its, n, sl, l, z, v⟩ := F.ex
  exact ⟨a, PySem.W.mg_of X G e, fun H => .inr ⟨_, its, n, l, rfl, rfl, z, v⟩⟩
theorem tupF_mk {K : PySem.W.Frag} {x : Str} {ns : List Int} {a : Addr} {od : Option Addr} {its : Array Value} {n : Nat} {sl : Array (Option Value)} (e : PySem.W.nsIn K mainGlobals x = some (some (.ref a))) (l : K.lookup a = some ⟨.type "tuple", od, .seq its n, sl⟩) (z : its.size ≤ sizeLine) (v : Vals (ns.map V.int) its.toList) : TupF K x ns :=
  ⟨⟨a, e, od, its, n, sl, l, z, v⟩⟩
theorem int_mk {K : PySem.W.Frag} {x : Str} {n : Int} {t : Tok} (e : PySem.W.nsIn K mainGlobals x = some (some (.int n t))) : ∃ t, PySem.W.nsIn K mainGlobals x = some (some (.int n t)) := ⟨t, e⟩
theorem oex_mk {K : PySem.W.Frag} {C : Addr} {nm q : Str} {N : Addr} {bs : List Value} {sn : List Str} {sub : List Value} {ab : Bool} {col : Option Bool} {dd : Option Addr} {m0 m1 m2 m3 m5 : Option Value}
    (x : K.lookup C = some (excClassObj nm q C N bs [.type "ValueError", .type "Exception", .type "BaseException", .type "object"] true sn sub ab col dd m0 m1 m2 m3 m5 "ValueError.__new__")) (a : PySem.W.findIn K (.ref C) "__setattr__" = some (some (.builtin "object.__setattr__")))
    (b : PySem.W.subIn K (.ref C) (.type "BaseException") = some true) (c : PySem.W.typeIn K (.ref C) = some (.type "type")) (d : PySem.W.keepIn K (.ref C) = true) : OexC K C :=
  ⟨⟨nm, q, N, bs, _, sn, sub, ab, col, dd, m0, m1, m2, m3, m5, x, by decide +kernel⟩, a, b, c, d⟩
theorem exm_self {K : PySem.W.Frag} {S : Addr} (h1 : PySem.W.subIn K (.ref S) (.type "BaseException") = some true) (h2 : PySem.W.isClsIn K S = true) (h3 : PySem.W.typeIn K (.ref S) = some (.type "type")) (h4 : PySem.W.subIn K (.ref S) (.ref S) = some true) :
    PySem.W.exmOne K (.ref S) (.ref S) = some true := by
  have e1 : (PySem.W.subIn K (.ref S) (.type "BaseException") == some true) = true := by rw [h1] <;> rfl
  have e2 : ((PySem.W.clsIn K S).isSome && PySem.W.typeIn K (.ref S) == some (.type "type")) = true := by
    have h2' : (PySem.W.clsIn K S).isSome = true := h2
    rw [h2', h3] <;> rfl
  show (if (PySem.W.subIn K (.ref S) (.type "BaseException") == some true) = true then (if ((PySem.W.clsIn K S).isSome && PySem.W.typeIn K (.ref S) == some (.type "type")) = true then PySem.W.subIn K (.ref S) (.ref S) else none) else none) = some true
  rw [if_pos e1, if_pos e2]
  exact h4
/-- what the written part tells -/
structure Facts (K : PySem.W.Frag) (A : Ad) : Prop where
  oex : OexC K A.re
  xf : XfC K A.re
  noCode : PySem.W.findIn K (.ref A.re) "code" = some none
  iRe : PySem.W.findIn K (.ref A.re) "__init__" = some (some (.ref A.reI))
  tRe : PySem.W.typeIn K (.ref A.reI) = some (.type "function")
  gRe : PySem.W.nsIn K mainGlobals "Refusal" = some (some (.ref A.re))
  eRe : PySem.W.exmOne K (.ref A.re) (.ref A.re) = some true
  vBAD : ∃ t, PySem.W.nsIn K mainGlobals "BAD" = some (some (.int (-1) t))
  vNONE_SUCH : ∃ t, PySem.W.nsIn K mainGlobals "NONE_SUCH" = some (some (.int (-2) t))
  vTOO_MANY : ∃ t, PySem.W.nsIn K mainGlobals "TOO_MANY" = some (some (.int (-7) t))
  vALL : ∃ t, PySem.W.nsIn K mainGlobals "ALL" = some (some (.int (0) t))
  vNONE : ∃ t, PySem.W.nsIn K mainGlobals "NONE" = some (some (.int (1) t))
  vNAME : ∃ t, PySem.W.nsIn K mainGlobals "NAME" = some (some (.int (2) t))
  vBOTH : ∃ t, PySem.W.nsIn K mainGlobals "BOTH" = some (some (.int (3) t))
  vEITHER : ∃ t, PySem.W.nsIn K mainGlobals "EITHER" = some (some (.int (4) t))
  vNOT : ∃ t, PySem.W.nsIn K mainGlobals "NOT" = some (some (.int (5) t))
  vSOME : ∃ t, PySem.W.nsIn K mainGlobals "SOME" = some (some (.int (6) t))
  vEVERY : ∃ t, PySem.W.nsIn K mainGlobals "EVERY" = some (some (.int (7) t))
  vMANY_NAMES : ∃ t, PySem.W.nsIn K mainGlobals "MANY_NAMES" = some (some (.int (4) t))
  vMANY_ROLES : ∃ t, PySem.W.nsIn K mainGlobals "MANY_ROLES" = some (some (.int (2) t))
  vMOST_ATOMS : ∃ t, PySem.W.nsIn K mainGlobals "MOST_ATOMS" = some (some (.int (4) t))
  vMOST_AXIOMS : ∃ t, PySem.W.nsIn K mainGlobals "MOST_AXIOMS" = some (some (.int (8) t))
  vMOST_ATOMS_ASKED : ∃ t, PySem.W.nsIn K mainGlobals "MOST_ATOMS_ASKED" = some (some (.int (6) t))
  z_len : PySem.W.nsIn K mainGlobals "len" = some none
  z_range : PySem.W.nsIn K mainGlobals "range" = some none
  z_tuple : PySem.W.nsIn K mainGlobals "tuple" = some none
  z_list : PySem.W.nsIn K mainGlobals "list" = some none
  z_enumerate : PySem.W.nsIn K mainGlobals "enumerate" = some none
  z_all : PySem.W.nsIn K mainGlobals "all" = some none
  z_int : PySem.W.nsIn K mainGlobals "int" = some none
  z_sorted : PySem.W.nsIn K mainGlobals "sorted" = some none
  cl_c : Cls K A.c
  mk_c : Mk K A.c A.cI
  g_c : PySem.W.nsIn K mainGlobals "Concept" = some (some (.ref A.c))
  n_c_kind : NoAttr K A.c "kind"
  n_c_number : NoAttr K A.c "number"
  n_c_parts : NoAttr K A.c "parts"
  n_c_numbers : NoAttr K A.c "numbers"
  cl_f : Cls K A.f
  mk_f : Mk K A.f A.fI
  g_f : PySem.W.nsIn K mainGlobals "Frame" = some (some (.ref A.f))
  n_f_atoms : NoAttr K A.f "atoms"
  n_f_spots : NoAttr K A.f "spots"
  n_f_inner : NoAttr K A.f "inner"
  cl_a : Cls K A.a
  mk_a : Mk K A.a A.aI
  g_a : PySem.W.nsIn K mainGlobals "Axiom" = some (some (.ref A.a))
  n_a_pair : NoAttr K A.a "pair"
  n_a_frame : NoAttr K A.a "frame"
  n_a_signature : NoAttr K A.a "signature"
  cl_m : Cls K A.m
  mk_m : Mk K A.m A.mI
  g_m : PySem.W.nsIn K mainGlobals "Module" = some (some (.ref A.m))
  n_m_chosen : NoAttr K A.m "chosen"
  n_m_names : NoAttr K A.m "names"
  n_m_roles : NoAttr K A.m "roles"
  cl_d : Cls K A.d
  mk_d : Mk K A.d A.dI
  g_d : PySem.W.nsIn K mainGlobals "Desk" = some (some (.ref A.d))
  n_d_axioms : NoAttr K A.d "axioms"
  d_reI : TDef K "__init__" "Refusal.__init__" sReI A.reI ["self", "code"]
  d_ask : TDef K "ask" "ask" sAsk A.ask ["is_so", "code"]
  g_ask : PySem.W.nsIn K mainGlobals "ask" = some (some (.ref A.ask))
  d_cI : TDef K "__init__" "Concept.__init__" sCI A.cI ["self", "kind", "number", "parts", "numbers"]
  d_cIs : TDef K "is_atom" "Concept.is_atom" sIs A.cIs ["self"]
  m_cIs : Meth K A.c "is_atom" A.cIs
  d_need : TDef K "need_number" "need_number" sNeed A.need ["numbers", "at", "many"]
  g_need : PySem.W.nsIn K mainGlobals "need_number" = some (some (.ref A.need))
  d_cat : TDef K "concept_at" "concept_at" sCat A.cat ["numbers", "at"]
  g_cat : PySem.W.nsIn K mainGlobals "concept_at" = some (some (.ref A.cat))
  d_mp : TDef K "many_parts" "many_parts" sMp A.mp ["kind"]
  g_mp : PySem.W.nsIn K mainGlobals "many_parts" = some (some (.ref A.mp))
  d_co : TDef K "concepts_of" "concepts_of" sCo A.co ["numbers", "many"]
  g_co : PySem.W.nsIn K mainGlobals "concepts_of" = some (some (.ref A.co))
  d_all : TDef K "all_in" "all_in" sAll A.all ["concepts"]
  g_all : PySem.W.nsIn K mainGlobals "all_in" = some (some (.ref A.all))
  d_atoms : TDef K "atoms_of" "atoms_of" sAtoms A.atoms ["concepts"]
  g_atoms : PySem.W.nsIn K mainGlobals "atoms_of" = some (some (.ref A.atoms))
  d_bits : TDef K "bits_of" "bits_of" sBits A.bits ["concepts", "kinds"]
  g_bits : PySem.W.nsIn K mainGlobals "bits_of" = some (some (.ref A.bits))
  d_sig : TDef K "signature_of" "signature_of" sSig A.sig ["concepts"]
  g_sig : PySem.W.nsIn K mainGlobals "signature_of" = some (some (.ref A.sig))
  d_fI : TDef K "__init__" "Frame.__init__" sFI A.fI ["self", "concepts"]
  d_so : TDef K "is_so" "Frame.is_so" sSo A.so ["self", "concept", "pattern"]
  m_so : Meth K A.f "is_so" A.so
  d_inn : TDef K "inner_of" "Frame.inner_of" sInn A.inn ["self", "pattern"]
  m_inn : Meth K A.f "inner_of" A.inn
  d_aw : TDef K "atoms_with" "Frame.atoms_with" sAw A.aw ["self", "kind", "role"]
  m_aw : Meth K A.f "atoms_with" A.aw
  d_keep : TDef K "keeping" "Frame.keeping" sKeep A.keep ["self", "axioms"]
  m_keep : Meth K A.f "keeping" A.keep
  d_win : TDef K "within" "Frame.within" sWin A.win ["self", "names", "roles"]
  m_win : Meth K A.f "within" A.win
  d_fol : TDef K "followers" "Frame.followers" sFol A.fol ["self", "pattern", "some", "role"]
  m_fol : Meth K A.f "followers" A.fol
  d_srv : TDef K "is_served" "Frame.is_served" sSrv A.srv ["self", "pattern", "some", "role"]
  m_srv : Meth K A.f "is_served" A.srv
  d_pos : TDef K "possible" "Frame.possible" sPos A.pos ["self", "some"]
  m_pos : Meth K A.f "possible" A.pos
  d_svA : TDef K "is_served_all" "Frame.is_served_all" sSvA A.svA ["self", "pattern", "some"]
  m_svA : Meth K A.f "is_served_all" A.svA
  d_und : TDef K "is_under" "Frame.is_under" sUnd A.und ["self", "one", "other", "some"]
  m_und : Meth K A.f "is_under" A.und
  d_aI : TDef K "__init__" "Axiom.__init__" sAI A.aI ["self", "concepts"]
  d_loc : TDef K "is_local" "Axiom.is_local" sLoc A.loc ["self", "names", "roles"]
  m_loc : Meth K A.a "is_local" A.loc
  d_mI : TDef K "__init__" "Module.__init__" sMI A.mI ["self", "chosen", "names", "roles"]
  d_has : TDef K "has_few_atoms" "has_few_atoms" sHas A.has ["concepts"]
  g_has : PySem.W.nsIn K mainGlobals "has_few_atoms" = some (some (.ref A.has))
  d_mod : TDef K "module_of" "module_of" sMod A.mod ["axioms", "names", "roles"]
  g_mod : PySem.W.nsIn K mainGlobals "module_of" = some (some (.ref A.mod))
  d_askS : TDef K "ask_signature" "ask_signature" sAskS A.askS ["names", "roles"]
  g_askS : PySem.W.nsIn K mainGlobals "ask_signature" = some (some (.ref A.askS))
  d_dI : TDef K "__init__" "Desk.__init__" sDI A.dI ["self"]
  d_dBeg : TDef K "begins" "Desk.begins" sDBeg A.dBeg ["self"]
  m_dBeg : Meth K A.d "begins" A.dBeg
  d_dLine : TDef K "line" "Desk.line" sDLine A.dLine ["self", "numbers"]
  m_dLine : Meth K A.d "line" A.dLine
  d_dDrop : TDef K "drop" "Desk.drop" sDDrop A.dDrop ["self", "index"]
  m_dDrop : Meth K A.d "drop" A.dDrop
  d_dWords : TDef K "words" "Desk.words" sDWords A.dWords ["self", "numbers"]
  m_dWords : Meth K A.d "words" A.dWords
  d_dQuiet : TDef K "quiet" "Desk.quiet" sDQuiet A.dQuiet ["self", "index", "names", "roles"]
  m_dQuiet : Meth K A.d "quiet" A.dQuiet
  d_dPart : TDef K "part" "Desk.part" sDPart A.dPart ["self", "names", "roles"]
  m_dPart : Meth K A.d "part" A.dPart
  d_dCh : TDef K "chosen_for" "Desk.chosen_for" sDCh A.dCh ["self", "concepts"]
  m_dCh : Meth K A.d "chosen_for" A.dCh
  d_dUnd : TDef K "under" "Desk.under" sDUnd A.dUnd ["self", "numbers"]
  m_dUnd : Meth K A.d "under" A.dUnd
  d_dBy : TDef K "by" "Desk.by" sDBy A.dBy ["self", "numbers"]
  m_dBy : Meth K A.d "by" A.dBy
  d_dTell : TDef K "tell_parts" "Desk.tell_parts" sDTell A.dTell ["self"]
  m_dTell : Meth K A.d "tell_parts" A.dTell
  d_dAns : TDef K "answer" "Desk.answer" sDAns A.dAns ["self", "call", "numbers", "row"]
  m_dAns : Meth K A.d "answer" A.dAns
  d_and_ : TDef K "answered" "answered" sAnd A.and_ ["desk", "call", "numbers", "row"]
  g_and_ : PySem.W.nsIn K mainGlobals "answered" = some (some (.ref A.and_))
  d_ans : TDef K "answers" "answers" sAns A.ans ["calls"]
  g_ans : PySem.W.nsIn K mainGlobals "answers" = some (some (.ref A.ans))
  tWR : TupF K "WITH_ROWS" [1, 3, 6, 7]
  tMN : TupF K "MANY_NUMBERS" [0, 0, 1, 0, 3, 2, 0, 0, 0]
theorem Facts.txt {K : PySem.W.Frag} {A : Ad} {h : Heap} {mg : Str → Option Value} (F : Facts K A) (X : K.In h) (G : h.Ns mainGlobals mg) : Txt K mg A where
  oex := F.oex
  xf := F.xf
  noCode := F.noCode
  iRe := F.iRe
  tRe := F.tRe
  gRe := PySem.W.mg_of X G F.gRe
  eRe := F.eRe
  vBAD := let ⟨t, e⟩ := F.vBAD; ⟨t, PySem.W.mg_of X G e⟩
  vNONE_SUCH := let ⟨t, e⟩ := F.vNONE_SUCH; ⟨t, PySem.W.mg_of X G e⟩
  vTOO_MANY := let ⟨t, e⟩ := F.vTOO_MANY; ⟨t, PySem.W.mg_of X G e⟩
  vALL := let ⟨t, e⟩ := F.vALL; ⟨t, PySem.W.mg_of X G e⟩
  vNONE := let ⟨t, e⟩ := F.vNONE; ⟨t, PySem.W.mg_of X G e⟩
  vNAME := let ⟨t, e⟩ := F.vNAME; ⟨t, PySem.W.mg_of X G e⟩
  vBOTH := let ⟨t, e⟩ := F.vBOTH; ⟨t, PySem.W.mg_of X G e⟩
  vEITHER := let ⟨t, e⟩ := F.vEITHER; ⟨t, PySem.W.mg_of X G e⟩
  vNOT := let ⟨t, e⟩ := F.vNOT; ⟨t, PySem.W.mg_of X G e⟩
  vSOME := let ⟨t, e⟩ := F.vSOME; ⟨t, PySem.W.mg_of X G e⟩
  vEVERY := let ⟨t, e⟩ := F.vEVERY; ⟨t, PySem.W.mg_of X G e⟩
  vMANY_NAMES := let ⟨t, e⟩ := F.vMANY_NAMES; ⟨t, PySem.W.mg_of X G e⟩
  vMANY_ROLES := let ⟨t, e⟩ := F.vMANY_ROLES; ⟨t, PySem.W.mg_of X G e⟩
  vMOST_ATOMS := let ⟨t, e⟩ := F.vMOST_ATOMS; ⟨t, PySem.W.mg_of X G e⟩
  vMOST_AXIOMS := let ⟨t, e⟩ := F.vMOST_AXIOMS; ⟨t, PySem.W.mg_of X G e⟩
  vMOST_ATOMS_ASKED := let ⟨t, e⟩ := F.vMOST_ATOMS_ASKED; ⟨t, PySem.W.mg_of X G e⟩
  z_len := PySem.W.mg_none_of X G F.z_len
  z_range := PySem.W.mg_none_of X G F.z_range
  z_tuple := PySem.W.mg_none_of X G F.z_tuple
  z_list := PySem.W.mg_none_of X G F.z_list
  z_enumerate := PySem.W.mg_none_of X G F.z_enumerate
  z_all := PySem.W.mg_none_of X G F.z_all
  z_int := PySem.W.mg_none_of X G F.z_int
  z_sorted := PySem.W.mg_none_of X G F.z_sorted
  cl_c := F.cl_c
  mk_c := F.mk_c
  g_c := PySem.W.mg_of X G F.g_c
  n_c_kind := F.n_c_kind
  n_c_number := F.n_c_number
  n_c_parts := F.n_c_parts
  n_c_numbers := F.n_c_numbers
  cl_f := F.cl_f
  mk_f := F.mk_f
  g_f := PySem.W.mg_of X G F.g_f
  n_f_atoms := F.n_f_atoms
  n_f_spots := F.n_f_spots
  n_f_inner := F.n_f_inner
  cl_a := F.cl_a
  mk_a := F.mk_a
  g_a := PySem.W.mg_of X G F.g_a
  n_a_pair := F.n_a_pair
  n_a_frame := F.n_a_frame
  n_a_signature := F.n_a_signature
  cl_m := F.cl_m
  mk_m := F.mk_m
  g_m := PySem.W.mg_of X G F.g_m
  n_m_chosen := F.n_m_chosen
  n_m_names := F.n_m_names
  n_m_roles := F.n_m_roles
  cl_d := F.cl_d
  mk_d := F.mk_d
  g_d := PySem.W.mg_of X G F.g_d
  n_d_axioms := F.n_d_axioms
  d_reI := F.d_reI
  d_ask := F.d_ask
  g_ask := PySem.W.mg_of X G F.g_ask
  d_cI := F.d_cI
  d_cIs := F.d_cIs
  m_cIs := F.m_cIs
  d_need := F.d_need
  g_need := PySem.W.mg_of X G F.g_need
  d_cat := F.d_cat
  g_cat := PySem.W.mg_of X G F.g_cat
  d_mp := F.d_mp
  g_mp := PySem.W.mg_of X G F.g_mp
  d_co := F.d_co
  g_co := PySem.W.mg_of X G F.g_co
  d_all := F.d_all
  g_all := PySem.W.mg_of X G F.g_all
  d_atoms := F.d_atoms
  g_atoms := PySem.W.mg_of X G F.g_atoms
  d_bits := F.d_bits
  g_bits := PySem.W.mg_of X G F.g_bits
  d_sig := F.d_sig
  g_sig := PySem.W.mg_of X G F.g_sig
  d_fI := F.d_fI
  d_so := F.d_so
  m_so := F.m_so
  d_inn := F.d_inn
  m_inn := F.m_inn
  d_aw := F.d_aw
  m_aw := F.m_aw
  d_keep := F.d_keep
  m_keep := F.m_keep
  d_win := F.d_win
  m_win := F.m_win
  d_fol := F.d_fol
  m_fol := F.m_fol
  d_srv := F.d_srv
  m_srv := F.m_srv
  d_pos := F.d_pos
  m_pos := F.m_pos
  d_svA := F.d_svA
  m_svA := F.m_svA
  d_und := F.d_und
  m_und := F.m_und
  d_aI := F.d_aI
  d_loc := F.d_loc
  m_loc := F.m_loc
  d_mI := F.d_mI
  d_has := F.d_has
  g_has := PySem.W.mg_of X G F.g_has
  d_mod := F.d_mod
  g_mod := PySem.W.mg_of X G F.g_mod
  d_askS := F.d_askS
  g_askS := PySem.W.mg_of X G F.g_askS
  d_dI := F.d_dI
  d_dBeg := F.d_dBeg
  m_dBeg := F.m_dBeg
  d_dLine := F.d_dLine
  m_dLine := F.m_dLine
  d_dDrop := F.d_dDrop
  m_dDrop := F.m_dDrop
  d_dWords := F.d_dWords
  m_dWords := F.m_dWords
  d_dQuiet := F.d_dQuiet
  m_dQuiet := F.m_dQuiet
  d_dPart := F.d_dPart
  m_dPart := F.m_dPart
  d_dCh := F.d_dCh
  m_dCh := F.m_dCh
  d_dUnd := F.d_dUnd
  m_dUnd := F.m_dUnd
  d_dBy := F.d_dBy
  m_dBy := F.m_dBy
  d_dTell := F.d_dTell
  m_dTell := F.m_dTell
  d_dAns := F.d_dAns
  m_dAns := F.m_dAns
  d_and_ := F.d_and_
  g_and_ := PySem.W.mg_of X G F.g_and_
  d_ans := F.d_ans
  g_ans := PySem.W.mg_of X G F.g_ans
  tWR := F.tWR.get X G
  tMN := F.tMN.get X G
abbrev A0 : Ad := { re := 31, c := 65, f := 198, a := 226, m := 247, d := 364, reI := 28, ask := 41, cI := 55, cIs := 62, need := 76, cat := 83, mp := 90, co := 97, all := 104, atoms := 111, bits := 118, sig := 125, fI := 137, so := 144, inn := 151, aw := 158, keep := 163, win := 168, fol := 175, srv := 180, pos := 185, svA := 190, und := 195, aI := 216, loc := 223, mI := 244, has := 258, mod := 263, askS := 272, dI := 286, dBeg := 293, dLine := 300, dDrop := 307, dWords := 314, dQuiet := 321, dPart := 328, dCh := 335, dUnd := 340, dBy := 347, dTell := 354, dAns := 361, and_ := 375, ans := 382 }
theorem all_mk {P : Program} {w : World} {K : PySem.W.Frag} {h : Heap} {mg : Str → Option Value} {fa : Addr} (X : K.In h) (G : h.Ns mainGlobals mg) (hfa : mg "answers" = some (.ref fa)) (F : Facts K A0) (AK : AnsK K A0 360) (n : K.lookup 356 = none) (c : PySem.W.codeHdIn K 360 356 = true) :
    K.lookup 356 = none ∧ PySem.W.CodeHd h 360 356 ∧ ∀ base : Heap, K.In base → base.Ns mainGlobals mg → TabB base mg 360 356 → DefOk P w K mg base CX0 51 fa ["calls"] (spAns A0 K 356) := by
  have T := F.txt X G
  have e := hfa.symm.trans T.g_ans
  cases e
  exact ⟨n, PySem.W.codeHd_of_K X c, fun base _ _ TB => ok_ans T AK TB⟩
end Ax

open PySem PySem.W PyProof.Rows
local macro_rules | `(tactic| o_headS (kHook $K $as $e)) => `(tactic| o_headS (kmHook $K $as $e [356]))
set_option maxRecDepth 100000 in
set_option maxHeartbeats 8000000 in
theorem PySem.Challenge.cw_axiomparts_s01_answers_holds : PySem.Challenge.rw_axiomparts_s01_answers.Holds := by
  w_on; k_headS; (case hw => exact ⟨[.list [.int 0]], by decide +kernel, by decide +kernel⟩)
  k_fillS
  refine Ax.walk_specT (r := PySem.Challenge.rw_axiomparts_s01_answers) (k := 51) (ps := ["calls"]) (sp := Ax.spAns Ax.A0) (c := 360) (Pt := 356) (by decide +kernel) rfl ⟨rfl, by decide, by decide⟩ (fun w h Y => ⟨PySem.W.km_in_of Y, PySem.W.km_tabs_of Y 356 (List.mem_singleton.mpr rfl)⟩) ?F ?S
  case F =>
    intro w mg fa h Y KX G hmg
    refine' Ax.all_mk KX G hmg ?facts ?ansk ?npt ?cdh
    case facts =>
      constructor
      (case oex => refine' Ax.oex_mk ?x ?a ?b ?c ?d; (case x => k_is); (case a => k_is); (case b => k_is); (case c => k_is); (case d => k_is))
      (case xf => refine' ⟨?a, ?b, ?c, ?d⟩; (case a => k_is); (case b => k_is); (case c => k_is); (case d => k_is))
      (case noCode => k_is)
      (case iRe => k_is)
      (case tRe => k_is)
      (case gRe => k_is)
      (case eRe => refine' Ax.exm_self ?a ?b ?c ?d; (case a => k_is); (case b => k_is); (case c => k_is); (case d => first | rfl | k_is))
      (case vBAD => refine' Ax.int_mk ?e; (case e => k_is))
      (case vNONE_SUCH => refine' Ax.int_mk ?e; (case e => k_is))
      (case vTOO_MANY => refine' Ax.int_mk ?e; (case e => k_is))
      (case vALL => refine' Ax.int_mk ?e; (case e => k_is))
      (case vNONE => refine' Ax.int_mk ?e; (case e => k_is))
      (case vNAME => refine' Ax.int_mk ?e; (case e => k_is))
      (case vBOTH => refine' Ax.int_mk ?e; (case e => k_is))
      (case vEITHER => refine' Ax.int_mk ?e; (case e => k_is))
      (case vNOT => refine' Ax.int_mk ?e; (case e => k_is))
      (case vSOME => refine' Ax.int_mk ?e; (case e => k_is))
      (case vEVERY => refine' Ax.int_mk ?e; (case e => k_is))
      (case vMANY_NAMES => refine' Ax.int_mk ?e; (case e => k_is))
      (case vMANY_ROLES => refine' Ax.int_mk ?e; (case e => k_is))
      (case vMOST_ATOMS => refine' Ax.int_mk ?e; (case e => k_is))
      (case vMOST_AXIOMS => refine' Ax.int_mk ?e; (case e => k_is))
      (case vMOST_ATOMS_ASKED => refine' Ax.int_mk ?e; (case e => k_is))
      (case z_len => k_is)
      (case z_range => k_is)
      (case z_tuple => k_is)
      (case z_list => k_is)
      (case z_enumerate => k_is)
      (case z_all => k_is)
      (case z_int => k_is)
      (case z_sorted => k_is)
      (case cl_c => refine' ⟨?a, ?b, ?c, ?d⟩; (case a => k_is); (case b => k_is); (case c => k_is); (case d => k_is))
      (case mk_c => refine' ⟨?a, ?b, ?c, ?d⟩; (case a => k_is); (case b => k_is); (case c => k_is); (case d => k_is))
      (case g_c => k_is)
      (case n_c_kind => show PySem.W.findIn _ (.ref _) "kind" = some none; k_is)
      (case n_c_number => show PySem.W.findIn _ (.ref _) "number" = some none; k_is)
      (case n_c_parts => show PySem.W.findIn _ (.ref _) "parts" = some none; k_is)
      (case n_c_numbers => show PySem.W.findIn _ (.ref _) "numbers" = some none; k_is)
      (case cl_f => refine' ⟨?a, ?b, ?c, ?d⟩; (case a => k_is); (case b => k_is); (case c => k_is); (case d => k_is))
      (case mk_f => refine' ⟨?a, ?b, ?c, ?d⟩; (case a => k_is); (case b => k_is); (case c => k_is); (case d => k_is))
      (case g_f => k_is)
      (case n_f_atoms => show PySem.W.findIn _ (.ref _) "atoms" = some none; k_is)
      (case n_f_spots => show PySem.W.findIn _ (.ref _) "spots" = some none; k_is)
      (case n_f_inner => show PySem.W.findIn _ (.ref _) "inner" = some none; k_is)
      (case cl_a => refine' ⟨?a, ?b, ?c, ?d⟩; (case a => k_is); (case b => k_is); (case c => k_is); (case d => k_is))
      (case mk_a => refine' ⟨?a, ?b, ?c, ?d⟩; (case a => k_is); (case b => k_is); (case c => k_is); (case d => k_is))
      (case g_a => k_is)
      (case n_a_pair => show PySem.W.findIn _ (.ref _) "pair" = some none; k_is)
      (case n_a_frame => show PySem.W.findIn _ (.ref _) "frame" = some none; k_is)
      (case n_a_signature => show PySem.W.findIn _ (.ref _) "signature" = some none; k_is)
      (case cl_m => refine' ⟨?a, ?b, ?c, ?d⟩; (case a => k_is); (case b => k_is); (case c => k_is); (case d => k_is))
      (case mk_m => refine' ⟨?a, ?b, ?c, ?d⟩; (case a => k_is); (case b => k_is); (case c => k_is); (case d => k_is))
      (case g_m => k_is)
      (case n_m_chosen => show PySem.W.findIn _ (.ref _) "chosen" = some none; k_is)
      (case n_m_names => show PySem.W.findIn _ (.ref _) "names" = some none; k_is)
      (case n_m_roles => show PySem.W.findIn _ (.ref _) "roles" = some none; k_is)
      (case cl_d => refine' ⟨?a, ?b, ?c, ?d⟩; (case a => k_is); (case b => k_is); (case c => k_is); (case d => k_is))
      (case mk_d => refine' ⟨?a, ?b, ?c, ?d⟩; (case a => k_is); (case b => k_is); (case c => k_is); (case d => k_is))
      (case g_d => k_is)
      (case n_d_axioms => show PySem.W.findIn _ (.ref _) "axioms" = some none; k_is)
      (case d_reI => refine' Ax.tdef_mk ?l ?c ?k (fun _ _ _ _ _ _ us hl => match us, hl with | [_, _], _ => rfl); (case l => k_is); (case c => k_is); (case k => k_is))
      (case d_ask => refine' Ax.tdef_mk ?l ?c ?k (fun _ _ _ _ _ _ us hl => match us, hl with | [_, _], _ => rfl); (case l => k_is); (case c => k_is); (case k => k_is))
      (case g_ask => k_is)
      (case d_cI => refine' Ax.tdef_mk ?l ?c ?k (fun _ _ _ _ _ _ us hl => match us, hl with | [_, _, _, _, _], _ => rfl); (case l => k_is); (case c => k_is); (case k => k_is))
      (case d_cIs => refine' Ax.tdef_mk ?l ?c ?k (fun _ _ _ _ _ _ us hl => match us, hl with | [_], _ => rfl); (case l => k_is); (case c => k_is); (case k => k_is))
      (case m_cIs => refine' ⟨?a, ?i, ?k⟩; (case a => k_is); (case i => k_is); (case k => k_is))
      (case d_need => refine' Ax.tdef_mk ?l ?c ?k (fun _ _ _ _ _ _ us hl => match us, hl with | [_, _, _], _ => rfl); (case l => k_is); (case c => k_is); (case k => k_is))
      (case g_need => k_is)
      (case d_cat => refine' Ax.tdef_mk ?l ?c ?k (fun _ _ _ _ _ _ us hl => match us, hl with | [_, _], _ => rfl); (case l => k_is); (case c => k_is); (case k => k_is))
      (case g_cat => k_is)
      (case d_mp => refine' Ax.tdef_mk ?l ?c ?k (fun _ _ _ _ _ _ us hl => match us, hl with | [_], _ => rfl); (case l => k_is); (case c => k_is); (case k => k_is))
      (case g_mp => k_is)
      (case d_co => refine' Ax.tdef_mk ?l ?c ?k (fun _ _ _ _ _ _ us hl => match us, hl with | [_, _], _ => rfl); (case l => k_is); (case c => k_is); (case k => k_is))
      (case g_co => k_is)
      (case d_all => refine' Ax.tdef_mk ?l ?c ?k (fun _ _ _ _ _ _ us hl => match us, hl with | [_], _ => rfl); (case l => k_is); (case c => k_is); (case k => k_is))
      (case g_all => k_is)
      (case d_atoms => refine' Ax.tdef_mk ?l ?c ?k (fun _ _ _ _ _ _ us hl => match us, hl with | [_], _ => rfl); (case l => k_is); (case c => k_is); (case k => k_is))
      (case g_atoms => k_is)
      (case d_bits => refine' Ax.tdef_mk ?l ?c ?k (fun _ _ _ _ _ _ us hl => match us, hl with | [_, _], _ => rfl); (case l => k_is); (case c => k_is); (case k => k_is))
      (case g_bits => k_is)
      (case d_sig => refine' Ax.tdef_mk ?l ?c ?k (fun _ _ _ _ _ _ us hl => match us, hl with | [_], _ => rfl); (case l => k_is); (case c => k_is); (case k => k_is))
      (case g_sig => k_is)
      (case d_fI => refine' Ax.tdef_mk ?l ?c ?k (fun _ _ _ _ _ _ us hl => match us, hl with | [_, _], _ => rfl); (case l => k_is); (case c => k_is); (case k => k_is))
      (case d_so => refine' Ax.tdef_mk ?l ?c ?k (fun _ _ _ _ _ _ us hl => match us, hl with | [_, _, _], _ => rfl); (case l => k_is); (case c => k_is); (case k => k_is))
      (case m_so => refine' ⟨?a, ?i, ?k⟩; (case a => k_is); (case i => k_is); (case k => k_is))
      (case d_inn => refine' Ax.tdef_mk ?l ?c ?k (fun _ _ _ _ _ _ us hl => match us, hl with | [_, _], _ => rfl); (case l => k_is); (case c => k_is); (case k => k_is))
      (case m_inn => refine' ⟨?a, ?i, ?k⟩; (case a => k_is); (case i => k_is); (case k => k_is))
      (case d_aw => refine' Ax.tdef_mk ?l ?c ?k (fun _ _ _ _ _ _ us hl => match us, hl with | [_, _, _], _ => rfl); (case l => k_is); (case c => k_is); (case k => k_is))
      (case m_aw => refine' ⟨?a, ?i, ?k⟩; (case a => k_is); (case i => k_is); (case k => k_is))
      (case d_keep => refine' Ax.tdef_mk ?l ?c ?k (fun _ _ _ _ _ _ us hl => match us, hl with | [_, _], _ => rfl); (case l => k_is); (case c => k_is); (case k => k_is))
      (case m_keep => refine' ⟨?a, ?i, ?k⟩; (case a => k_is); (case i => k_is); (case k => k_is))
      (case d_win => refine' Ax.tdef_mk ?l ?c ?k (fun _ _ _ _ _ _ us hl => match us, hl with | [_, _, _], _ => rfl); (case l => k_is); (case c => k_is); (case k => k_is))
      (case m_win => refine' ⟨?a, ?i, ?k⟩; (case a => k_is); (case i => k_is); (case k => k_is))
      (case d_fol => refine' Ax.tdef_mk ?l ?c ?k (fun _ _ _ _ _ _ us hl => match us, hl with | [_, _, _, _], _ => rfl); (case l => k_is); (case c => k_is); (case k => k_is))
      (case m_fol => refine' ⟨?a, ?i, ?k⟩; (case a => k_is); (case i => k_is); (case k => k_is))
      (case d_srv => refine' Ax.tdef_mk ?l ?c ?k (fun _ _ _ _ _ _ us hl => match us, hl with | [_, _, _, _], _ => rfl); (case l => k_is); (case c => k_is); (case k => k_is))
      (case m_srv => refine' ⟨?a, ?i, ?k⟩; (case a => k_is); (case i => k_is); (case k => k_is))
      (case d_pos => refine' Ax.tdef_mk ?l ?c ?k (fun _ _ _ _ _ _ us hl => match us, hl with | [_, _], _ => rfl); (case l => k_is); (case c => k_is); (case k => k_is))
      (case m_pos => refine' ⟨?a, ?i, ?k⟩; (case a => k_is); (case i => k_is); (case k => k_is))
      (case d_svA => refine' Ax.tdef_mk ?l ?c ?k (fun _ _ _ _ _ _ us hl => match us, hl with | [_, _, _], _ => rfl); (case l => k_is); (case c => k_is); (case k => k_is))
      (case m_svA => refine' ⟨?a, ?i, ?k⟩; (case a => k_is); (case i => k_is); (case k => k_is))
      (case d_und => refine' Ax.tdef_mk ?l ?c ?k (fun _ _ _ _ _ _ us hl => match us, hl with | [_, _, _, _], _ => rfl); (case l => k_is); (case c => k_is); (case k => k_is))
      (case m_und => refine' ⟨?a, ?i, ?k⟩; (case a => k_is); (case i => k_is); (case k => k_is))
      (case d_aI => refine' Ax.tdef_mk ?l ?c ?k (fun _ _ _ _ _ _ us hl => match us, hl with | [_, _], _ => rfl); (case l => k_is); (case c => k_is); (case k => k_is))
      (case d_loc => refine' Ax.tdef_mk ?l ?c ?k (fun _ _ _ _ _ _ us hl => match us, hl with | [_, _, _], _ => rfl); (case l => k_is); (case c => k_is); (case k => k_is))
      (case m_loc => refine' ⟨?a, ?i, ?k⟩; (case a => k_is); (case i => k_is); (case k => k_is))
      (case d_mI => refine' Ax.tdef_mk ?l ?c ?k (fun _ _ _ _ _ _ us hl => match us, hl with | [_, _, _, _], _ => rfl); (case l => k_is); (case c => k_is); (case k => k_is))
      (case d_has => refine' Ax.tdef_mk ?l ?c ?k (fun _ _ _ _ _ _ us hl => match us, hl with | [_], _ => rfl); (case l => k_is); (case c => k_is); (case k => k_is))
      (case g_has => k_is)
      (case d_mod => refine' Ax.tdef_mk ?l ?c ?k (fun _ _ _ _ _ _ us hl => match us, hl with | [_, _, _], _ => rfl); (case l => k_is); (case c => k_is); (case k => k_is))
      (case g_mod => k_is)
      (case d_askS => refine' Ax.tdef_mk ?l ?c ?k (fun _ _ _ _ _ _ us hl => match us, hl with | [_, _], _ => rfl); (case l => k_is); (case c => k_is); (case k => k_is))
      (case g_askS => k_is)
      (case d_dI => refine' Ax.tdef_mk ?l ?c ?k (fun _ _ _ _ _ _ us hl => match us, hl with | [_], _ => rfl); (case l => k_is); (case c => k_is); (case k => k_is))
      (case d_dBeg => refine' Ax.tdef_mk ?l ?c ?k (fun _ _ _ _ _ _ us hl => match us, hl with | [_], _ => rfl); (case l => k_is); (case c => k_is); (case k => k_is))
      (case m_dBeg => refine' ⟨?a, ?i, ?k⟩; (case a => k_is); (case i => k_is); (case k => k_is))
      (case d_dLine => refine' Ax.tdef_mk ?l ?c ?k (fun _ _ _ _ _ _ us hl => match us, hl with | [_, _], _ => rfl); (case l => k_is); (case c => k_is); (case k => k_is))
      (case m_dLine => refine' ⟨?a, ?i, ?k⟩; (case a => k_is); (case i => k_is); (case k => k_is))
      (case d_dDrop => refine' Ax.tdef_mk ?l ?c ?k (fun _ _ _ _ _ _ us hl => match us, hl with | [_, _], _ => rfl); (case l => k_is); (case c => k_is); (case k => k_is))
      (case m_dDrop => refine' ⟨?a, ?i, ?k⟩; (case a => k_is); (case i => k_is); (case k => k_is))
      (case d_dWords => refine' Ax.tdef_mk ?l ?c ?k (fun _ _ _ _ _ _ us hl => match us, hl with | [_, _], _ => rfl); (case l => k_is); (case c => k_is); (case k => k_is))
      (case m_dWords => refine' ⟨?a, ?i, ?k⟩; (case a => k_is); (case i => k_is); (case k => k_is))
      (case d_dQuiet => refine' Ax.tdef_mk ?l ?c ?k (fun _ _ _ _ _ _ us hl => match us, hl with | [_, _, _, _], _ => rfl); (case l => k_is); (case c => k_is); (case k => k_is))
      (case m_dQuiet => refine' ⟨?a, ?i, ?k⟩; (case a => k_is); (case i => k_is); (case k => k_is))
      (case d_dPart => refine' Ax.tdef_mk ?l ?c ?k (fun _ _ _ _ _ _ us hl => match us, hl with | [_, _, _], _ => rfl); (case l => k_is); (case c => k_is); (case k => k_is))
      (case m_dPart => refine' ⟨?a, ?i, ?k⟩; (case a => k_is); (case i => k_is); (case k => k_is))
      (case d_dCh => refine' Ax.tdef_mk ?l ?c ?k (fun _ _ _ _ _ _ us hl => match us, hl with | [_, _], _ => rfl); (case l => k_is); (case c => k_is); (case k => k_is))
      (case m_dCh => refine' ⟨?a, ?i, ?k⟩; (case a => k_is); (case i => k_is); (case k => k_is))
      (case d_dUnd => refine' Ax.tdef_mk ?l ?c ?k (fun _ _ _ _ _ _ us hl => match us, hl with | [_, _], _ => rfl); (case l => k_is); (case c => k_is); (case k => k_is))
      (case m_dUnd => refine' ⟨?a, ?i, ?k⟩; (case a => k_is); (case i => k_is); (case k => k_is))
      (case d_dBy => refine' Ax.tdef_mk ?l ?c ?k (fun _ _ _ _ _ _ us hl => match us, hl with | [_, _], _ => rfl); (case l => k_is); (case c => k_is); (case k => k_is))
      (case m_dBy => refine' ⟨?a, ?i, ?k⟩; (case a => k_is); (case i => k_is); (case k => k_is))
      (case d_dTell => refine' Ax.tdef_mk ?l ?c ?k (fun _ _ _ _ _ _ us hl => match us, hl with | [_], _ => rfl); (case l => k_is); (case c => k_is); (case k => k_is))
      (case m_dTell => refine' ⟨?a, ?i, ?k⟩; (case a => k_is); (case i => k_is); (case k => k_is))
      (case d_dAns => refine' Ax.tdef_mk ?l ?c ?k (fun _ _ _ _ _ _ us hl => match us, hl with | [_, _, _, _], _ => rfl); (case l => k_is); (case c => k_is); (case k => k_is))
      (case m_dAns => refine' ⟨?a, ?i, ?k⟩; (case a => k_is); (case i => k_is); (case k => k_is))
      (case d_and_ => refine' Ax.tdef_mk ?l ?c ?k (fun _ _ _ _ _ _ us hl => match us, hl with | [_, _, _, _], _ => rfl); (case l => k_is); (case c => k_is); (case k => k_is))
      (case g_and_ => k_is)
      (case d_ans => refine' Ax.tdef_mk ?l ?c ?k (fun _ _ _ _ _ _ us hl => match us, hl with | [_], _ => rfl); (case l => k_is); (case c => k_is); (case k => k_is))
      (case g_ans => k_is)
      (case tWR => refine' Ax.tupF_mk ?a ?l ?z ?v; (case a => k_is); (case l => k_is); (case z => decide); (case v => exact .cons ⟨_, rfl⟩ (.cons ⟨_, rfl⟩ (.cons ⟨_, rfl⟩ (.cons ⟨_, rfl⟩ (.nil))))))
      (case tMN => refine' Ax.tupF_mk ?a ?l ?z ?v; (case a => k_is); (case l => k_is); (case z => decide); (case v => exact .cons ⟨_, rfl⟩ (.cons ⟨_, rfl⟩ (.cons ⟨_, rfl⟩ (.cons ⟨_, rfl⟩ (.cons ⟨_, rfl⟩ (.cons ⟨_, rfl⟩ (.cons ⟨_, rfl⟩ (.cons ⟨_, rfl⟩ (.cons ⟨_, rfl⟩ (.nil)))))))))))
    case ansk =>
      refine' Ax.ansk_mk ?xl ?xc ?xk
      (case xl => k_is); (case xc => k_is); (case xk => k_is)
    (case npt => rfl); (case cdh => kernel_rfl)
  case S =>
    intro K H0 H xs a hu ht hask hx
    cases hx with
    | cons h1 h2 =>
      cases h2
      cases h1 with
      | lst hs ha =>
        have e := L2.ints_dw a.1 _ ha
        subst e
        have hu' : L2.Same H0 H := hu
        exact ⟨_, a.1, rfl, hu'.seq hs, hask, LamX.TabS.nil ht, fun p H' hp => .lst (L2.SqL.of hp) (L2.dw_ints _)⟩
#print axioms PySem.Challenge.cw_axiomparts_s01_answers_holds

