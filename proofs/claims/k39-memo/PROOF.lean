import PyProof.Rows.All
import Wide.All
import OpenK.AllK
import Wide.FinOn
import KE.KEqDict
import PyProof.NeKinds
import HandS.ForMost
import HandS.Nested
import HandS.EndTab
import HandS.IsInst
import HandS.More
import HandS.Walk
import PySem.Challenge.RW_stylehouse_k39_memo
set_option Elab.async false
set_option linter.all false
set_option maxRecDepth 100000
set_option maxHeartbeats 8000000

/-! K39, part m: association lists, in plain Lean. -/
namespace K39
section
variable {α β : Type}
def putG (L : List (Int × α)) (k : Int) (v : α) : List (Int × α) :=
  if (L.any fun p => decide (p.1 = k)) = true then L.map (fun p => if p.1 = k then (p.1, v) else p) else L ++ [(k, v)]
def findG (L : List (Int × α)) (k : Int) : Option α := (L.find? fun p => decide (p.1 = k)).map (·.2)
def dropG (L : List (Int × α)) (k : Int) : List (Int × α) := L.filter fun p => decide (p.1 ≠ k)
def setG (L : List (Int × α)) (k : Int) (v : α) : List (Int × α) := L.map fun p => if p.1 = k then (p.1, v) else p
def mapG (f : α → β) (L : List (Int × α)) : List (Int × β) := L.map fun p => (p.1, f p.2)
/-- a key stands for one thing -/
def Uniq (L : List (Int × α)) : Prop := ∀ p ∈ L, ∀ q ∈ L, p.1 = q.1 → p.2 = q.2
theorem any_mapG (f : α → β) (k : Int) : ∀ L : List (Int × α), ((mapG f L).any fun p => decide (p.1 = k)) = (L.any fun p => decide (p.1 = k))
  | [] => rfl
  | p :: r => by
    show (decide (p.1 = k) || ((mapG f r).any fun p => decide (p.1 = k))) = _
    rw [any_mapG f k r, List.any_cons]
theorem put_mapG (f : α → β) (L : List (Int × α)) (k : Int) (v : α) : mapG f (putG L k v) = putG (mapG f L) k (f v) := by
  unfold putG
  rw [any_mapG]
  split
  · unfold mapG
    rw [List.map_map, List.map_map]
    refine List.map_congr_left fun p _ => ?_
    show (if p.1 = k then (p.1, v) else p).1 |> fun _ => _ = _
    by_cases h : p.1 = k <;> simp [h]
  · unfold mapG
    rw [List.map_append]
    rfl
theorem set_mapG (f : α → β) (L : List (Int × α)) (k : Int) (v : α) : mapG f (setG L k v) = setG (mapG f L) k (f v) := by
  unfold setG mapG
  rw [List.map_map, List.map_map]
  refine List.map_congr_left fun p _ => ?_
  by_cases h : p.1 = k <;> simp [h]
theorem drop_mapG (f : α → β) (L : List (Int × α)) (k : Int) : mapG f (dropG L k) = dropG (mapG f L) k := by
  unfold dropG mapG
  rw [List.filter_map]
  rfl
theorem find_mapG (f : α → β) (k : Int) : ∀ L : List (Int × α), findG (mapG f L) k = (findG L k).map f
  | [] => rfl
  | p :: r => by
    have ih := find_mapG f k r
    unfold findG at ih ⊢
    show ((((p.1, f p.2) :: mapG f r).find? fun p => decide (p.1 = k)).map (·.2)) = _
    rw [List.find?_cons, List.find?_cons]
    by_cases h : p.1 = k
    · simp [h]
    · simp only [h, decide_false]
      exact ih
theorem mem_put {L : List (Int × α)} {k : Int} {v : α} {p : Int × α} (h : p ∈ putG L k v) : p = (k, v) ∨ (p ∈ L ∧ p.1 ≠ k) := by
  unfold putG at h
  split at h
  · obtain ⟨q, hq, e⟩ := List.mem_map.mp h
    by_cases hk : q.1 = k
    · rw [if_pos hk] at e
      left
      rw [← e, hk]
    · rw [if_neg hk] at e
      right
      rw [← e]
      exact ⟨hq, hk⟩
  · rename_i hn
    rcases List.mem_append.mp h with q | q
    · refine .inr ⟨q, fun e => hn ?_⟩
      exact List.any_eq_true.mpr ⟨p, q, decide_eq_true e⟩
    · exact .inl (List.mem_singleton.mp q)
theorem mem_set {L : List (Int × α)} {k : Int} {v : α} {p : Int × α} (h : p ∈ setG L k v) : p = (k, v) ∨ (p ∈ L ∧ p.1 ≠ k) := by
  obtain ⟨q, hq, e⟩ := List.mem_map.mp h
  by_cases hk : q.1 = k
  · rw [if_pos hk] at e
    left
    rw [← e, hk]
  · rw [if_neg hk] at e
    right
    rw [← e]
    exact ⟨hq, hk⟩
theorem mem_drop {L : List (Int × α)} {k : Int} {p : Int × α} (h : p ∈ dropG L k) : p ∈ L := (List.mem_filter.mp h).1
theorem mem_find {L : List (Int × α)} {k : Int} {v : α} (h : findG L k = some v) : (k, v) ∈ L := by
  unfold findG at h
  cases e : L.find? fun p => decide (p.1 = k) with
  | none =>
    rw [e] at h
    cases h
  | some p =>
    rw [e] at h
    have h1 : p.2 = v := Option.some.inj h
    have h2 : p.1 = k := of_decide_eq_true (List.find?_some (p := fun p : Int × α => decide (p.1 = k)) e)
    have h3 := List.mem_of_find?_eq_some e
    rw [← h1, ← h2]
    exact h3
theorem Uniq.put {L : List (Int × α)} (u : Uniq L) (k : Int) (v : α) : Uniq (putG L k v) := fun p hp q hq e => by
  rcases mem_put hp with h | ⟨h1, h2⟩
  · rcases mem_put hq with g | ⟨g1, g2⟩
    · rw [h, g]
    · rw [h] at e
      exact absurd e.symm g2
  · rcases mem_put hq with g | ⟨g1, g2⟩
    · rw [g] at e
      exact absurd e h2
    · exact u p h1 q g1 e
theorem Uniq.drop {L : List (Int × α)} (u : Uniq L) (k : Int) : Uniq (dropG L k) := fun p hp q hq e => u p (mem_drop hp) q (mem_drop hq) e
theorem Uniq.set {L : List (Int × α)} (u : Uniq L) (k : Int) (v : α) : Uniq (setG L k v) := fun p hp q hq e => by
  rcases mem_set hp with h | ⟨h1, h2⟩
  · rcases mem_set hq with g | ⟨g1, g2⟩
    · rw [h, g]
    · rw [h] at e
      exact absurd e.symm g2
  · rcases mem_set hq with g | ⟨g1, g2⟩
    · rw [g] at e
      exact absurd e h2
    · exact u p h1 q g1 e
theorem Uniq.find {L : List (Int × α)} (u : Uniq L) {k : Int} {v w : α} (h : findG L k = some v) (m : (k, w) ∈ L) : w = v := u _ m _ (mem_find h) rfl
theorem length_put (L : List (Int × α)) (k : Int) (v : α) : (putG L k v).length ≤ L.length + 1 := by
  unfold putG
  split
  · rw [List.length_map]
    omega
  · rw [List.length_append]
    exact Nat.le_refl _
theorem length_set (L : List (Int × α)) (k : Int) (v : α) : (setG L k v).length = L.length := List.length_map _
theorem length_drop (L : List (Int × α)) (k : Int) : (dropG L k).length ≤ L.length := List.length_filter_le _ _
theorem length_mapG (f : α → β) (L : List (Int × α)) : (mapG f L).length = L.length := List.length_map _
theorem find_put (L : List (Int × α)) (k : Int) (v : α) : findG (putG L k v) k = some v := by
  unfold putG
  by_cases a : (L.any fun p => decide (p.1 = k)) = true
  · rw [if_pos a]
    induction L with
    | nil => exact absurd a (by simp)
    | cons p r ih =>
      unfold findG
      rw [List.map_cons, List.find?_cons]
      by_cases h : p.1 = k
      · simp [h]
      · rw [if_neg h]
        simp only [h, decide_false]
        rw [List.any_cons] at a
        simp only [h, decide_false, Bool.false_or] at a
        exact ih a
  · rw [if_neg a]
    unfold findG
    rw [List.find?_append]
    have e : (L.find? fun p => decide (p.1 = k)) = none := by
      refine List.find?_eq_none.mpr fun p hp => ?_
      intro z
      exact a (List.any_eq_true.mpr ⟨p, hp, z⟩)
    rw [e]
    simp
end
/-- two rising rows of the same numbers are one -/
theorem sorted_one : ∀ {ys zs : List Int}, ys.Perm zs → ys.Pairwise (· ≤ ·) → zs.Pairwise (· ≤ ·) → ys = zs
  | [], zs, p, _, _ => by
    have := p.length_eq
    cases zs with
    | nil => rfl
    | cons a r => simp at this
  | a :: r, [], p, _, _ => by
    have := p.length_eq
    simp at this
  | a :: r, b :: t, p, h1, h2 => by
    obtain ⟨h1a, h1r⟩ := List.pairwise_cons.mp h1
    obtain ⟨h2b, h2t⟩ := List.pairwise_cons.mp h2
    have ab : a = b := by
      have m1 : a ∈ b :: t := p.mem_iff.mp List.mem_cons_self
      have m2 : b ∈ a :: r := p.mem_iff.mpr List.mem_cons_self
      rcases List.mem_cons.mp m1 with e | e
      · exact e
      · rcases List.mem_cons.mp m2 with e' | e'
        · exact e'.symm
        · exact Int.le_antisymm (h1a b e') (h2b a e)
    subst ab
    have q : r.Perm t := p.cons_inv
    rw [sorted_one q h1r h2t]
end K39

/-! K39, part a: == and != of what goes into the memo (a tuple, a list, a dict with a tuple in it). -/
namespace K39
open PySem PySem.Spec PyProof.Rows L2

/-! ### a dict beside a list or a tuple: both decline, two things are not the same one -/
section
variable {prog : Program} {w : World} {A : Around} {E : Value → Shared → Prop} {s : Shared}
theorem dict_eq_declines {a : Addr} {y : Value} {T : String} {Q : Value → Shared → Prop} (ta : s.TypeIs (.ref a) "dict") (tb : s.TypeIs y T) (hs : isSubtype (.type T) (.type "dict") = pure false) (h : Q .notImplemented s) :
    wpAny (model prog w) A (call (.builtin "dict.__eq__") [.ref a, y]) Q E s := by
  refine wpAny_call_entry PySem.F.slot_dict_eq ta PySem.F.entry_dict_eq ?_ (PySem.F.args_dict_eq_2 _ _)
  show wpAny _ _ (Builtin.Dict.dictSlotArgs "__eq__" ⟨[.ref a, y], []⟩ >>= _) _ _ s
  refine wpAny_bind ?_
  unfold Builtin.Dict.dictSlotArgs
  refine wpAny_bind (wpAny_notOrdered_dict ta ?_)
  show wpAny _ _ (pure (Value.ref a, y)) _ _ s
  refine wpAny_pure ?_
  refine wpAny_bind (wpAny_isInstance (T := T) tb hs ?_)
  simp only [Bool.not_false, if_true]
  refine wpAny_bind (wpAny_rule (wpAny_bind (wpAny_pure (wpAny_pure ⟨_, rfl, h⟩))))
theorem dict_ne_declines {a : Addr} {y : Value} {T : String} {Q : Value → Shared → Prop} (ta : s.TypeIs (.ref a) "dict") (tb : s.TypeIs y T) (hs : isSubtype (.type T) (.type "dict") = pure false) (h : Q .notImplemented s) :
    wpAny (model prog w) A (call (.builtin "dict.__ne__") [.ref a, y]) Q E s := by
  refine wpAny_call_entry PySem.F.slot_dict_ne ta PySem.F.entry_dict_ne ?_ (PySem.F.args_dict_ne_2 _ _)
  show wpAny _ _ (Builtin.Dict.dictSlotArgs "__ne__" ⟨[.ref a, y], []⟩ >>= _) _ _ s
  refine wpAny_bind ?_
  unfold Builtin.Dict.dictSlotArgs
  refine wpAny_bind (wpAny_notOrdered_dict ta ?_)
  show wpAny _ _ (pure (Value.ref a, y)) _ _ s
  refine wpAny_pure ?_
  refine wpAny_bind (wpAny_isInstance (T := T) tb hs ?_)
  simp only [Bool.not_false, if_true]
  refine wpAny_bind (wpAny_rule (wpAny_bind (wpAny_pure (wpAny_pure ⟨_, rfl, h⟩))))
end
open PySem.SeqAt in
section
open AutoSeq1 (wpAny_loadPart')
open MeetsSeq MeetsSeq2 MeetsSeq3
theorem list_eq_declines_dict (l b : Addr) (items : Array Value) (n : Nat) (dd dd2 : Option Addr) (dta : Data) (sl sl2 : Array (Option Value)) :
    Meets (Builtin.«list.__eq__» ⟨[.ref l, .ref b], []⟩) (fun _ R s => s.heap.get? l = some { cls := .type "list", dict := dd, data := .seq items n, slots := sl } ∧ s.heap.get? b = some { cls := .type "dict", dict := dd2, data := dta, slots := sl2 } ∧ R (.ok (.ret .notImplemented)) s) :=
  .of_wp fun prog w A R s h => by obtain ⟨hp, g, d, tk, os⟩ := s; obtain ⟨hl, hb, h⟩ := h; have f1 := F.sub_dict_list; wp_walk using wpAny_loadPart' hl, wpAny_loadPart' hb; exact ⟨_, rfl, h⟩
theorem tuple_eq_declines_dict (l b : Addr) (items : Array Value) (n : Nat) (dd dd2 : Option Addr) (dta : Data) (sl sl2 : Array (Option Value)) :
    Meets (Builtin.«tuple.__eq__» ⟨[.ref l, .ref b], []⟩) (fun _ R s => s.heap.get? l = some { cls := .type "tuple", dict := dd, data := .seq items n, slots := sl } ∧ s.heap.get? b = some { cls := .type "dict", dict := dd2, data := dta, slots := sl2 } ∧ R (.ok (.ret .notImplemented)) s) :=
  .of_wp fun prog w A R s h => by obtain ⟨hp, g, d, tk, os⟩ := s; obtain ⟨hl, hb, h⟩ := h; have f1 := F.sub_dict_tuple; wp_walk using wpAny_loadPart' hl, wpAny_loadPart' hb; exact ⟨_, rfl, h⟩
theorem list_ne_declines_dict (l b : Addr) (items : Array Value) (n : Nat) (dd dd2 : Option Addr) (dta : Data) (sl sl2 : Array (Option Value)) :
    Meets (Builtin.«list.__ne__» ⟨[.ref l, .ref b], []⟩) (fun _ R s => s.heap.get? l = some { cls := .type "list", dict := dd, data := .seq items n, slots := sl } ∧ s.heap.get? b = some { cls := .type "dict", dict := dd2, data := dta, slots := sl2 } ∧ R (.ok (.ret .notImplemented)) s) :=
  .of_wp fun prog w A R s h => by obtain ⟨hp, g, d, tk, os⟩ := s; obtain ⟨hl, hb, h⟩ := h; have f1 := F.sub_dict_list; wp_walk using wpAny_loadPart' hl, wpAny_loadPart' hb; exact ⟨_, rfl, h⟩
theorem tuple_ne_declines_dict (l b : Addr) (items : Array Value) (n : Nat) (dd dd2 : Option Addr) (dta : Data) (sl sl2 : Array (Option Value)) :
    Meets (Builtin.«tuple.__ne__» ⟨[.ref l, .ref b], []⟩) (fun _ R s => s.heap.get? l = some { cls := .type "tuple", dict := dd, data := .seq items n, slots := sl } ∧ s.heap.get? b = some { cls := .type "dict", dict := dd2, data := dta, slots := sl2 } ∧ R (.ok (.ret .notImplemented)) s) :=
  .of_wp fun prog w A R s h => by obtain ⟨hp, g, d, tk, os⟩ := s; obtain ⟨hl, hb, h⟩ := h; have f1 := F.sub_dict_tuple; wp_walk using wpAny_loadPart' hl, wpAny_loadPart' hb; exact ⟨_, rfl, h⟩
end

/-! ### the three kinds of what goes in -/
inductive Inp where
  | tup (i j : Int) | lst (i j : Int) | dct (i j : Int)
  deriving DecidableEq
def InpAt (H : Hp) (a : Addr) : Inp → Prop
  | .tup i j => H a = some (.tup [.int i, .str "a", .int j])
  | .lst i j => H a = some (.lst [.int i, .int j])
  | .dct i j => ∃ t : Addr, H a = some (.dK [(Sum.inr "one", .int i), (Sum.inr "other", .ref t)]) ∧ H t = some (.tup [.int j, .str "b"])
section
variable {A : Around} {s : Shared} {prog : Program} {w : World}
/-- a list or a tuple -/
def SeqO (s : Shared) (b : Addr) : Prop := ∃ (c : String) (dd : Option Addr) (items : Array Value) (n : Nat) (sl : Array (Option Value)), (c = "list" ∨ c = "tuple") ∧ s.heap.get? b = some { cls := .type c, dict := dd, data := .seq items n, slots := sl }
theorem dict_seq_eq {a b : Addr} {o : Obj} {E Q : Value → Shared → Prop} (ha : s.heap.get? a = some o) (hc : o.cls = .type "dict") (hb : SeqO s b) (hu : A.units < cLine) (h : Q (.bool false) s) : wpAny (model prog w) A (richCompare .Eq (.ref a) (.ref b)) Q E s := by
  obtain ⟨oc, od, dt, sl⟩ := o
  simp only at hc
  subst hc
  obtain ⟨c, dd, items, n, sl2, hcc, hb⟩ := hb
  have hne : a ≠ b := fun e => by
    subst e
    rw [ha] at hb
    cases hb
    rcases hcc with z | z <;> exact absurd z (by decide)
  rcases hcc with rfl | rfl
  · exact SeqAt.rc_eq_decline_or (k := false) ⟨_, ha, rfl⟩ ⟨_, hb, rfl⟩ (by decide) PySem.F.sub_list_dict PySem.F.slot_dict_eq PySem.F.slot_list_eq_refl
      (fun _ hq => dict_eq_declines ⟨_, ha, rfl⟩ ⟨_, hb, rfl⟩ PySem.F.sub_list_dict hq)
      (fun _ hq => call_meets PySem.F.slot_list_eq_refl ⟨_, hb, rfl⟩ PySem.F.entry_list_eq (PySem.F.args_list_eq_2 _ _) (list_eq_declines_dict b a items n dd od dt sl2 sl) ⟨hb, ha, hq⟩)
      (fun _ hq => wpAny_isSame_ref_other hne ha hb (by simp) hq) (.inr hu) h
  · exact SeqAt.rc_eq_decline_or (k := false) ⟨_, ha, rfl⟩ ⟨_, hb, rfl⟩ (by decide) PySem.F.sub_tuple_dict PySem.F.slot_dict_eq PySem.F.slot_tuple_eq_refl
      (fun _ hq => dict_eq_declines ⟨_, ha, rfl⟩ ⟨_, hb, rfl⟩ PySem.F.sub_tuple_dict hq)
      (fun _ hq => call_meets PySem.F.slot_tuple_eq_refl ⟨_, hb, rfl⟩ PySem.F.entry_tuple_eq (PySem.F.args_tuple_eq_2 _ _) (tuple_eq_declines_dict b a items n dd od dt sl2 sl) ⟨hb, ha, hq⟩)
      (fun _ hq => wpAny_isSame_ref_other hne ha hb (by simp) hq) (.inr hu) h
theorem seq_dict_eq {a b : Addr} {o : Obj} {E Q : Value → Shared → Prop} (ha : s.heap.get? a = some o) (hc : o.cls = .type "dict") (hb : SeqO s b) (hu : A.units < cLine) (h : Q (.bool false) s) : wpAny (model prog w) A (richCompare .Eq (.ref b) (.ref a)) Q E s := by
  obtain ⟨oc, od, dt, sl⟩ := o
  simp only at hc
  subst hc
  obtain ⟨c, dd, items, n, sl2, hcc, hb⟩ := hb
  have hne : b ≠ a := fun e => by
    subst e
    rw [ha] at hb
    cases hb
    rcases hcc with z | z <;> exact absurd z (by decide)
  rcases hcc with rfl | rfl
  · exact SeqAt.rc_eq_decline_or (k := false) ⟨_, hb, rfl⟩ ⟨_, ha, rfl⟩ (by decide) PySem.F.sub_dict_list PySem.F.slot_list_eq PySem.F.slot_dict_eq_refl
      (fun _ hq => call_meets PySem.F.slot_list_eq ⟨_, hb, rfl⟩ PySem.F.entry_list_eq (PySem.F.args_list_eq_2 _ _) (list_eq_declines_dict b a items n dd od dt sl2 sl) ⟨hb, ha, hq⟩)
      (fun _ hq => dict_eq_declines ⟨_, ha, rfl⟩ ⟨_, hb, rfl⟩ PySem.F.sub_list_dict hq)
      (fun _ hq => SeqAt.wpAny_isSame_ref_other' hne hb ha (by simp) hq) (.inr hu) h
  · exact SeqAt.rc_eq_decline_or (k := false) ⟨_, hb, rfl⟩ ⟨_, ha, rfl⟩ (by decide) PySem.F.sub_dict_tuple PySem.F.slot_tuple_eq PySem.F.slot_dict_eq_refl
      (fun _ hq => call_meets PySem.F.slot_tuple_eq ⟨_, hb, rfl⟩ PySem.F.entry_tuple_eq (PySem.F.args_tuple_eq_2 _ _) (tuple_eq_declines_dict b a items n dd od dt sl2 sl) ⟨hb, ha, hq⟩)
      (fun _ hq => dict_eq_declines ⟨_, ha, rfl⟩ ⟨_, hb, rfl⟩ PySem.F.sub_tuple_dict hq)
      (fun _ hq => SeqAt.wpAny_isSame_ref_other' hne hb ha (by simp) hq) (.inr hu) h
theorem dict_seq_ne {a b : Addr} {o : Obj} {E Q : Value → Shared → Prop} (ha : s.heap.get? a = some o) (hc : o.cls = .type "dict") (hb : SeqO s b) (hu : A.units < cLine) (h : Q (.bool true) s) : wpAny (model prog w) A (richCompare .NotEq (.ref a) (.ref b)) Q E s := by
  obtain ⟨oc, od, dt, sl⟩ := o
  simp only at hc
  subst hc
  obtain ⟨c, dd, items, n, sl2, hcc, hb⟩ := hb
  have hne : a ≠ b := fun e => by
    subst e
    rw [ha] at hb
    cases hb
    rcases hcc with z | z <;> exact absurd z (by decide)
  rcases hcc with rfl | rfl
  · exact SeqAt.rc_ne_decline_or (k := false) ⟨_, ha, rfl⟩ ⟨_, hb, rfl⟩ (by decide) PySem.F.sub_list_dict PySem.F.slot_dict_ne PySem.F.slot_list_ne_refl
      (fun _ hq => dict_ne_declines ⟨_, ha, rfl⟩ ⟨_, hb, rfl⟩ PySem.F.sub_list_dict hq)
      (fun _ hq => call_meets PySem.F.slot_list_ne_refl ⟨_, hb, rfl⟩ PySem.F.entry_list_ne (PySem.F.args_list_ne_2 _ _) (list_ne_declines_dict b a items n dd od dt sl2 sl) ⟨hb, ha, hq⟩)
      (fun _ hq => wpAny_isSame_ref_other hne ha hb (by simp) hq) (.inr hu) h
  · exact SeqAt.rc_ne_decline_or (k := false) ⟨_, ha, rfl⟩ ⟨_, hb, rfl⟩ (by decide) PySem.F.sub_tuple_dict PySem.F.slot_dict_ne PySem.F.slot_tuple_ne_refl
      (fun _ hq => dict_ne_declines ⟨_, ha, rfl⟩ ⟨_, hb, rfl⟩ PySem.F.sub_tuple_dict hq)
      (fun _ hq => call_meets PySem.F.slot_tuple_ne_refl ⟨_, hb, rfl⟩ PySem.F.entry_tuple_ne (PySem.F.args_tuple_ne_2 _ _) (tuple_ne_declines_dict b a items n dd od dt sl2 sl) ⟨hb, ha, hq⟩)
      (fun _ hq => wpAny_isSame_ref_other hne ha hb (by simp) hq) (.inr hu) h
theorem seq_dict_ne {a b : Addr} {o : Obj} {E Q : Value → Shared → Prop} (ha : s.heap.get? a = some o) (hc : o.cls = .type "dict") (hb : SeqO s b) (hu : A.units < cLine) (h : Q (.bool true) s) : wpAny (model prog w) A (richCompare .NotEq (.ref b) (.ref a)) Q E s := by
  obtain ⟨oc, od, dt, sl⟩ := o
  simp only at hc
  subst hc
  obtain ⟨c, dd, items, n, sl2, hcc, hb⟩ := hb
  have hne : b ≠ a := fun e => by
    subst e
    rw [ha] at hb
    cases hb
    rcases hcc with z | z <;> exact absurd z (by decide)
  rcases hcc with rfl | rfl
  · exact SeqAt.rc_ne_decline_or (k := false) ⟨_, hb, rfl⟩ ⟨_, ha, rfl⟩ (by decide) PySem.F.sub_dict_list PySem.F.slot_list_ne PySem.F.slot_dict_ne_refl
      (fun _ hq => call_meets PySem.F.slot_list_ne ⟨_, hb, rfl⟩ PySem.F.entry_list_ne (PySem.F.args_list_ne_2 _ _) (list_ne_declines_dict b a items n dd od dt sl2 sl) ⟨hb, ha, hq⟩)
      (fun _ hq => dict_ne_declines ⟨_, ha, rfl⟩ ⟨_, hb, rfl⟩ PySem.F.sub_list_dict hq)
      (fun _ hq => SeqAt.wpAny_isSame_ref_other' hne hb ha (by simp) hq) (.inr hu) h
  · exact SeqAt.rc_ne_decline_or (k := false) ⟨_, hb, rfl⟩ ⟨_, ha, rfl⟩ (by decide) PySem.F.sub_dict_tuple PySem.F.slot_tuple_ne PySem.F.slot_dict_ne_refl
      (fun _ hq => call_meets PySem.F.slot_tuple_ne ⟨_, hb, rfl⟩ PySem.F.entry_tuple_ne (PySem.F.args_tuple_ne_2 _ _) (tuple_ne_declines_dict b a items n dd od dt sl2 sl) ⟨hb, ha, hq⟩)
      (fun _ hq => dict_ne_declines ⟨_, ha, rfl⟩ ⟨_, hb, rfl⟩ PySem.F.sub_tuple_dict hq)
      (fun _ hq => SeqAt.wpAny_isSame_ref_other' hne hb ha (by simp) hq) (.inr hu) h
end

/-! ### the rules -/
def datOf : Inp → PyData
  | .tup i j => .tuple [.int i, .str "a", .int j]
  | .lst i j => .list [.int i, .int j]
  | .dct i j => .tuple [.int j, .str "b"]
theorem eqv_int (i j : Int) : PyData.eqv (.int i) (.int j) = decide (i = j) := by
  rw [Bool.eq_iff_iff]; simp [PyData.eqv, PyData.eqvAll]
theorem eqv_tup (i j i' j' : Int) : PyData.eqv (datOf (.tup i j)) (datOf (.tup i' j')) = decide (Inp.tup i j = Inp.tup i' j') := by
  rw [Bool.eq_iff_iff]; simp [PyData.eqv, PyData.eqvAll, datOf]
theorem eqv_lst (i j i' j' : Int) : PyData.eqv (datOf (.lst i j)) (datOf (.lst i' j')) = decide (Inp.lst i j = Inp.lst i' j') := by
  rw [Bool.eq_iff_iff]; simp [PyData.eqv, PyData.eqvAll, datOf]
theorem eqv_tl (i j i' j' : Int) : PyData.eqv (datOf (.tup i j)) (datOf (.lst i' j')) = decide (Inp.tup i j = Inp.lst i' j') := by
  rw [Bool.eq_iff_iff]; simp [PyData.eqv, PyData.eqvAll, datOf]
theorem eqv_lt (i j i' j' : Int) : PyData.eqv (datOf (.lst i j)) (datOf (.tup i' j')) = decide (Inp.lst i j = Inp.tup i' j') := by
  rw [Bool.eq_iff_iff]; simp [PyData.eqv, PyData.eqvAll, datOf]
theorem eqv_b (j j' : Int) : PyData.eqv (.tuple [.int j, .str "b"]) (.tuple [.int j', .str "b"]) = decide (j = j') := by
  rw [Bool.eq_iff_iff]; simp [PyData.eqv, PyData.eqvAll]
theorem strlay (x : Str) (h : (PyData.str x).canLay0 = true) (i j : Int) : SeqAt.shaped (.tuple [.int i, .str x, .int j]) = true ∧ SeqAt.shaped (.tuple [.int j, .str x]) = true ∧ SeqAt.shaped (.list [.int i, .int j]) = true := by
  simp [SeqAt.shaped, PyData.canLay0, PyData.canLayAll0, PyData.depth, PyData.depthAll] at h ⊢
  exact h
theorem lay_a : (PyData.str "a").canLay0 = true := by decide +kernel
theorem lay_b : (PyData.str "b").canLay0 = true := by decide +kernel
theorem shaped_dat : ∀ p : Inp, SeqAt.shaped (datOf p) = true
  | .tup i j => (strlay "a" lay_a i j).1
  | .lst i j => (strlay "a" lay_a i j).2.2
  | .dct i j => (strlay "b" lay_b i j).2.1
section
variable {X : Cx} {pins : List (Addr × Obj)} {σ : L2.St} {H : Hp} {s : Shared}
theorem dp_of {a : Addr} : ∀ {p : Inp}, InpAt H a p → (∀ i j, p ≠ .dct i j) → Dp X.K H (.ref a) (datOf p)
  | .tup i j, h, _ => .tup (SqT.of h) (.cons (.int i) (.cons (.str _) (.cons (.int j) .nil)))
  | .lst i j, h, _ => .lst (SqL.of h) (.cons (.int i) (.cons (.int j) .nil))
  | .dct i j, _, n => absurd rfl (n i j)
theorem dp_two {a : Addr} {j : Int} (h : H a = some (.tup [.int j, .str "b"])) : Dp X.K H (.ref a) (.tuple [.int j, .str "b"]) := .tup (SqT.of h) (.cons (.int j) (.cons (.str _) .nil))
theorem seq_of (I : Inv X pins σ H s) {a : Addr} : ∀ {p : Inp}, InpAt H a p → (∀ i j, p ≠ .dct i j) → SeqO s a
  | .tup i j, h, _ => by
    obtain ⟨its, _, ⟨o, ho, hc, n, hd⟩, _⟩ := I.tuple (SqT.of h)
    obtain ⟨oc, od, dt, sl⟩ := o
    simp only at hc hd
    subst hc hd
    exact ⟨"tuple", _, _, _, _, .inr rfl, ho⟩
  | .lst i j, h, _ => by
    obtain ⟨its, _, ⟨o, n, ho, hc, _, hd⟩, _⟩ := I.list (SqL.of h)
    obtain ⟨oc, od, dt, sl⟩ := o
    simp only at hc hd
    subst hc hd
    exact ⟨"list", _, _, _, _, .inl rfl, ho⟩
  | .dct i j, _, n => absurd rfl (n i j)
theorem dict_of (I : Inv X pins σ H s) {a : Addr} {kvs : List (Key × V)} (h : H a = some (.dK kvs)) : ∃ o, s.heap.get? a = some o ∧ o.cls = .type "dict" := by
  obtain ⟨_, _, vs, _, o, es, ep, h1, h2, _⟩ := (show ObjOk X.prog X.w H s.heap a (.dK kvs) from I.hok a _ h)
  exact ⟨o, h1, h2.1⟩
theorem one_other : ¬ (("one" : Str) = "other") := by decide +kernel
/-- what the two dicts' pairs give one beside the other -/
theorem dct_hits (I : Inv X pins σ H s) {A : Around} (hu : A.in1.units + 64 < cLine) {t t' : Addr} {i j i' j' : Int} {va vb : List (Key × Value)} (ra : KV [((Sum.inr "one" : Key), V.int i), (Sum.inr "other", .ref t)] va) (rb : KV [((Sum.inr "one" : Key), V.int i'), (Sum.inr "other", .ref t')] vb)
    (ht : H t = some (.tup [.int j, .str "b"])) (ht' : H t' = some (.tup [.int j', .str "b"])) : PySem.W.KeqHits A.in1 s vb va (decide (i = i') && (decide (j = j') && true)) := by
  unfold KV at ra rb
  cases ra with
  | cons r1 ra =>
    cases ra with
    | cons r2 ra =>
      cases ra
      cases rb with
      | cons q1 rb =>
        cases rb with
        | cons q2 rb =>
          cases rb
          rename_i a1 a2 b1 b2
          obtain ⟨k1, u1⟩ := a1
          obtain ⟨k2, u2⟩ := a2
          obtain ⟨l1, w1⟩ := b1
          obtain ⟨l2, w2⟩ := b2
          obtain ⟨e1, r1⟩ := r1
          obtain ⟨e2, r2⟩ := r2
          obtain ⟨f1, q1⟩ := q1
          obtain ⟨f2, q2⟩ := q2
          simp only at e1 e2 f1 f2 r1 r2 q1 q2
          subst e1 e2 f1 f2
          obtain ⟨tk, rfl⟩ := (show ∃ tk, u1 = Value.int i tk from r1)
          obtain ⟨tk', rfl⟩ := (show ∃ tk, w1 = Value.int i' tk from q1)
          obtain ⟨as, d1⟩ := Dp.reads I _ _ u2 (dp_two ht) r2
          obtain ⟨bs, d2⟩ := Dp.reads I _ _ w2 (dp_two ht') q2
          have e1 := PySem.W.keq_at (A := A) d1 d2 (strlay "b" lay_b 0 j).2.1 (strlay "b" lay_b 0 j').2.1 hu
          rw [eqv_b] at e1
          have e0 : SeqAt.EqAt A.in1 s (.int i tk) (.int i' tk') (decide (i = i')) := by
            have z := SeqAt.EqAt.int_int (A := A.in1) (s := s) i tk i' tk'
            rw [Bool.beq_eq_decide_eq] at z
            exact z
          refine .hit ?_ e0 (.hit ?_ e1 .nil)
          · rfl
          · simp [valueAt, one_other, List.find?]
theorem op_eqX (hu : X.A.units + 66 < cLine) : OpR X (compareOp .Eq) (fun x y H Q => ∃ a b p q, x = .ref a ∧ y = .ref b ∧ InpAt H a p ∧ InpAt H b q ∧ Q (.bl (decide (p = q))) H) := by
  intro pins s σ H x y v u Q I rx ry h
  obtain ⟨a, b, p, q, rfl, rfl, hp, hq, h⟩ := h
  have fin : ∀ {r : Bool}, r = decide (p = q) → EP X pins σ Q (.bool r) s := fun {r} e => ⟨.bl (decide (p = q)), H, I, by rw [← e]; rfl, h⟩
  have plain : (∀ i j, p ≠ .dct i j) → (∀ i j, q ≠ .dct i j) → PyData.eqv (datOf p) (datOf q) = decide (p = q) → wpAny (model X.prog X.w) X.A (compareOp .Eq v u) (EP X pins σ Q) X.xe s := fun n1 n2 e => by
    refine op_eqD (by omega) pins s σ H _ _ v u Q I rx ry ⟨_, _, dp_of hp n1, dp_of hq n2, shaped_dat p, shaped_dat q, ?_⟩
    rw [e]
    exact h
  cases (show v = Value.ref a from rx)
  cases (show u = Value.ref b from ry)
  cases p with
  | tup i j =>
    cases q with
    | tup i' j' => exact plain (fun _ _ z => nomatch z) (fun _ _ z => nomatch z) (eqv_tup i j i' j')
    | lst i' j' => exact plain (fun _ _ z => nomatch z) (fun _ _ z => nomatch z) (eqv_tl i j i' j')
    | dct i' j' =>
      obtain ⟨t, hd, _⟩ := id hq
      obtain ⟨o, ho, hc⟩ := dict_of I hd
      exact seq_dict_eq ho hc (seq_of I hp (fun _ _ z => nomatch z)) (by omega) (fin (decide_eq_false (fun z => nomatch z)).symm)
  | lst i j =>
    cases q with
    | tup i' j' => exact plain (fun _ _ z => nomatch z) (fun _ _ z => nomatch z) (eqv_lt i j i' j')
    | lst i' j' => exact plain (fun _ _ z => nomatch z) (fun _ _ z => nomatch z) (eqv_lst i j i' j')
    | dct i' j' =>
      obtain ⟨t, hd, _⟩ := id hq
      obtain ⟨o, ho, hc⟩ := dict_of I hd
      exact seq_dict_eq ho hc (seq_of I hp (fun _ _ z => nomatch z)) (by omega) (fin (decide_eq_false (fun z => nomatch z)).symm)
  | dct i j =>
    obtain ⟨t, hd, ht⟩ := id hp
    obtain ⟨o, ho, hc⟩ := dict_of I hd
    cases q with
    | tup i' j' => exact dict_seq_eq ho hc (seq_of I hq (fun _ _ z => nomatch z)) (by omega) (fin (decide_eq_false (fun z => nomatch z)).symm)
    | lst i' j' => exact dict_seq_eq ho hc (seq_of I hq (fun _ _ z => nomatch z)) (by omega) (fin (decide_eq_false (fun z => nomatch z)).symm)
    | dct i' j' =>
      obtain ⟨t', hd', ht'⟩ := id hq
      obtain ⟨_, ya, va, ra, da⟩ := (show ObjOk X.prog X.w H s.heap a (.dK _) from I.hok a _ hd)
      obtain ⟨_, yb, vb, rb, db⟩ := (show ObjOk X.prog X.w H s.heap b (.dK _) from I.hok b _ hd')
      have hl : va.length = vb.length := by rw [← ra.length, ← rb.length]; rfl
      refine PySem.W.keq_eq (knd := mixKind X.prog X.w) ya yb da db (by omega) (fun _ => dct_hits I (by show X.A.units + 1 + 64 < cLine; omega) ra rb ht ht') (fin ?_)
      rw [hl]
      rw [Bool.eq_iff_iff]
      simp
theorem op_neX (hu : X.A.units + 66 < cLine) : OpR X (compareOp .NotEq) (fun x y H Q => ∃ a b p q, x = .ref a ∧ y = .ref b ∧ InpAt H a p ∧ InpAt H b q ∧ Q (.bl (!decide (p = q))) H) := by
  intro pins s σ H x y v u Q I rx ry h
  obtain ⟨a, b, p, q, rfl, rfl, hp, hq, h⟩ := h
  have fin : ∀ {r : Bool}, r = (!decide (p = q)) → EP X pins σ Q (.bool r) s := fun {r} e => ⟨.bl (!decide (p = q)), H, I, by rw [← e]; rfl, h⟩
  have plain : (∀ i j, p ≠ .dct i j) → (∀ i j, q ≠ .dct i j) → PyData.eqv (datOf p) (datOf q) = decide (p = q) → wpAny (model X.prog X.w) X.A (compareOp .NotEq v u) (EP X pins σ Q) X.xe s := fun n1 n2 e => by
    refine op_neD (by omega) pins s σ H _ _ v u Q I rx ry ⟨_, _, dp_of hp n1, dp_of hq n2, shaped_dat p, shaped_dat q, ?_⟩
    rw [e]
    exact h
  have no : ∀ {z : Bool}, z = false → true = (!z) := fun {z} e => by rw [e]; rfl
  cases (show v = Value.ref a from rx)
  cases (show u = Value.ref b from ry)
  cases p with
  | tup i j =>
    cases q with
    | tup i' j' => exact plain (fun _ _ z => nomatch z) (fun _ _ z => nomatch z) (eqv_tup i j i' j')
    | lst i' j' => exact plain (fun _ _ z => nomatch z) (fun _ _ z => nomatch z) (eqv_tl i j i' j')
    | dct i' j' =>
      obtain ⟨t, hd, _⟩ := id hq
      obtain ⟨o, ho, hc⟩ := dict_of I hd
      exact seq_dict_ne ho hc (seq_of I hp (fun _ _ z => nomatch z)) (by omega) (fin (no (decide_eq_false (fun z => nomatch z))))
  | lst i j =>
    cases q with
    | tup i' j' => exact plain (fun _ _ z => nomatch z) (fun _ _ z => nomatch z) (eqv_lt i j i' j')
    | lst i' j' => exact plain (fun _ _ z => nomatch z) (fun _ _ z => nomatch z) (eqv_lst i j i' j')
    | dct i' j' =>
      obtain ⟨t, hd, _⟩ := id hq
      obtain ⟨o, ho, hc⟩ := dict_of I hd
      exact seq_dict_ne ho hc (seq_of I hp (fun _ _ z => nomatch z)) (by omega) (fin (no (decide_eq_false (fun z => nomatch z))))
  | dct i j =>
    obtain ⟨t, hd, ht⟩ := id hp
    obtain ⟨o, ho, hc⟩ := dict_of I hd
    cases q with
    | tup i' j' => exact dict_seq_ne ho hc (seq_of I hq (fun _ _ z => nomatch z)) (by omega) (fin (no (decide_eq_false (fun z => nomatch z))))
    | lst i' j' => exact dict_seq_ne ho hc (seq_of I hq (fun _ _ z => nomatch z)) (by omega) (fin (no (decide_eq_false (fun z => nomatch z))))
    | dct i' j' =>
      obtain ⟨t', hd', ht'⟩ := id hq
      obtain ⟨_, ya, va, ra, da⟩ := (show ObjOk X.prog X.w H s.heap a (.dK _) from I.hok a _ hd)
      obtain ⟨_, yb, vb, rb, db⟩ := (show ObjOk X.prog X.w H s.heap b (.dK _) from I.hok b _ hd')
      have hl : va.length = vb.length := by rw [← ra.length, ← rb.length]; rfl
      refine PySem.W.keq_ne (knd := mixKind X.prog X.w) ya yb da db (by omega) (fun _ => dct_hits I (by show X.A.units + 1 + 64 < cLine; omega) ra rb ht ht') (fin ?_)
      rw [hl]
      rw [Bool.eq_iff_iff]
      simp
end
end K39

/-! K39, part b: a nested def that is handed to a method and called there. -/
namespace K39
open PySem PySem.Spec PyProof.Rows L2 LamX NdefX

section
variable {X : Cx} {pins : List (Addr × Obj)} {σ : L2.St} {H : Hp} {s : Shared}
/-- the running def's cells are no frame's dict -/
theorem cell_nofr (I : Inv X pins σ H s) (hfn : ∀ x, X.fn x = true) {y : Str} {c : Addr} (e : X.env.cells.lookup y = some c) : c ∉ frs X.stack := fun z => by
  rcases List.mem_cons.mp (I.stkSub c z) with h | h
  · exact I.cne y c e h
  · obtain ⟨_, o, ho, _⟩ := I.ok.funs.mem h
    exact absurd (Nat.lt_of_lt_of_le (Heap.lt_size ho) (I.ok.cab y c (hfn y) e)) (Nat.lt_irrefl _)
/-- the context of a method's body, entered at s from the running frames -/
abbrev inCx (X : Cx) (N : List Str) (q : Str) (sg : Scope) (g : Addr) (cdg : Value) (s : Shared) (H : Hp) : Cx := (cxOf CX0 X.prog X.w X.K X.mg X.base N q sg g cdg X.A X.stack s H E0).nox
/-- a(), in the method that got the nested def F at f -/
def tAct (i : Nat) (f : Addr) (F : NF) (ws : List (Option V)) (sp : List (Option V) → Sp) : TE := fun σZ HZ Q => σZ[i]? = some (some (.ref f)) ∧ HZ f = some (FnO f F) ∧ HZ F.c = some (CodeO F.c F.qual) ∧ sp ws [] HZ Q E0
theorem pe_actN {N : List Str} {q : Str} {sg : Scope} {g f : Addr} {cdg : Value} {F : NF} {fr : List Str} {js : List Nat} {sp : List (Option V) → Sp} {k i : Nat} {a : Str} {p1 p2 : Pos}
    (I : Inv X pins σ H s) (hfn : ∀ x, X.fn x = true) (cp : Caps X F.cl fr js) (hr : Room k (X.A.deeper (envOfC q sg s.heap.objs.size g cdg))) (Fn : NOk X.prog X.w X.K X.mg X.base CX0 k f F [] fr sp)
    (hN : N[i]? = some a) (hv : Vis sg a) (hd : (a == ("__debug__" : Str)) = false := by decide) (hcd : (a == ("__classdict__" : Str)) = false := by decide) :
    PE (inCx X N q sg g cdg s H) (.Call (.Name a p1) [] [] p2) (tAct i f F (js.map (slotAt σ)) sp) := by
  have C0 : CellsAt F.cl fr (js.map (slotAt σ)) s.heap H := cells_of I cp
  refine ⟨fun pinsZ sZ σZ HZ Q IZ h => ?_⟩
  obtain ⟨hs, hf, hc, ht⟩ := h
  refine wpAny_Call_Name_kw (thn ((pe_var (pos := p1) (i := i) hN hv hd hcd).run pinsZ sZ σZ HZ (fun v H1 => v = .ref f ∧ H1 = HZ) IZ ⟨.ref f, hs, rfl, rfl⟩) fun u s1 ⟨v, H1, I1, r1, q1⟩ => ?_)
  obtain ⟨ev, eH⟩ := q1
  subst ev
  rw [eH] at I1
  obtain rfl : u = Value.ref f := r1
  refine PySem.W.callWith_F0 (first := []) (fnAt_of I1 hf) ?_
  have C1 : CellsAt F.cl fr (js.map (slotAt σ)) s1.heap HZ := CellsAt.later (X := inCx X N q sg g cdg s H) C0 (fun y c e => cell_nofr I hfn (cp.sub y c e)) (fun _ _ _ z => nomatch z) I1
  refine wpAny_call (codeAny_mono (Fn.run _ _ s1 HZ [] [] _ Q E0 hr I1.env0 hf hc C1 .nil ht) fun r s' hq => ?_)
  cases r with
  | error e => exact False.elim hq
  | ok fl =>
    cases fl with
    | ret u => exact I1.after hq
    | next => exact False.elim hq
    | brk => exact False.elim hq
    | cont => exact False.elim hq
end

/-- o.m(e, ..), the callee's body told of the very state: R, what is wanted of the slots, the arguments (self first) and the heap at the call -/
def tMethS (C : Addr) (m : Str) (R : L2.St → List V → Hp → VK → Prop) (ta : TE) (t : TA) : TE := fun σ H Q => ta σ H fun x H1 => ∃ a dx fs, x = .ref a ∧ H1 a = some (.ins C dx fs) ∧ fs.lookup m = none ∧ t σ H1 fun vs H2 => R σ (x :: vs) H2 Q
theorem pe_methS {X : Cx} {k : Nat} {f C : Addr} {m : Str} {N ps : List Str} {name qual : Str} {params : Arguments} {body : List Stmt} {scope : Scope} {dV kV doc pm cdv ct oc : Value} {an od : Option Addr} {osl : Array (Option Value)}
    {R : L2.St → List V → Hp → VK → Prop} {e o : Expr} {es : List Expr} {ta : TE} {t : TA} {apos pos : Pos} {pl : Sem Bool}
    (he : PE X o ta) (c : Cls X.K C) (hm : Meth X.K C m f) (lk : X.K.lookup f = some ⟨oc, od, .func (PySem.W.fnOf name qual params body scope dV kV doc pm an cdv ct), osl⟩) (hcd : PySem.W.codeIn X.K cdv qual = true) (S : FnScope N ps scope)
    (hb : L2.Binds X.K (PySem.W.fnOf name qual params body scope dV kV doc pm an cdv ct) ps []) (hr : Room (k + 1) X.A) (ha : PA X (e :: es) t)
    (hG : ∀ (pins : List (Addr × Obj)) (σ : L2.St) (H : Hp) (s : Shared) (vs : List V) (Q : VK), Inv X pins σ H s → R σ vs H Q → vs.length = ps.length ∧ (Room k (X.A.deeper (envOfC qual scope s.heap.objs.size f cdv)) →
      ∃ t, PSs (inCx X N qual scope f cdv s H) body t ∧ t { nx := fun _ H' => Q .non H', rt := Q } (start N vs) H))
    (hst : starEach (e :: es) X.env = (false, eval e X.env) :: starEach es X.env := by rfl) (hpl : (backTo pos (starEach es X.env)).any (·.1) = false := by rfl)
    (ht : eval (.Call (.Attribute o m apos) (e :: es) [] pos) X.env = (do
      let ov ← eval o X.env
      standAt apos.atName
      let (f, first) ← holding [ov] (getMethod ov m pl)
      callWith pos f first (backTo pos (starEach (e :: es) X.env)) (backToKw pos (keywordEach [] X.env))) := by rfl) :
    PE X (.Call (.Attribute o m apos) (e :: es) [] pos) (tMethS C m R ta t) := by
  refine ⟨fun pins s σ H Q I h => ?_⟩
  refine PySem.W.methodCall_KW (pl := pl) (thn (he.run pins s σ H _ I h) fun u s1 ⟨x, H1, I1, rx, a, dx, fs, ex, ea, l, q⟩ => ?_) ht
  subst ex
  obtain rfl : u = Value.ref a := rx
  refine getmeth_ok I1 ea c hm l ?_
  refine PySem.W.callWith_K (first := [.ref a]) (h₀ := X.base) I.ok.mod.kin hm.kp (thn (ha.run pos pins s1 σ H1 _ I1 q) fun us s2 ⟨vs, H2, I2, r, q2⟩ => ⟨I2.kIn, ?_⟩) hst hpl
  obtain ⟨hl, hbody⟩ := hG pins σ H2 s2 (.ref a :: vs) Q I2 q2
  have r2 : Vals (V.ref a :: vs) (Value.ref a :: us) := .cons rfl r
  have hl2 : (Value.ref a :: us).length = ps.length := by rw [← r2.length]; exact hl
  have rc : codeAny (model X.prog X.w) X.A (.call (.ref f) ⟨.ref a :: us, []⟩) (CR CX0 X.stack X.prog X.w H2 s2 Q E0) s2 := by
    have hb2 := hb s2 (.ref a :: us) I2.kIn (by rw [List.append_nil]; exact hl2)
    rw [List.append_nil] at hb2
    refine run_ofS (N := N) (ps := ps) (us := .ref a :: us) (vs := .ref a :: vs) lk hcd S hr I2.env0 hb2 r2 hl fun hr' => ?_
    obtain ⟨t', ht', hq'⟩ := hbody hr'
    exact ⟨t', ht'.nox, hq'⟩
  show wpAny _ _ (call (.ref f) (.ref a :: us)) _ _ _
  refine wpAny_call (codeAny_mono rc fun r s3 hq => ?_)
  cases r with
  | error e => exact False.elim hq
  | ok fl =>
    cases fl with
    | ret u => exact I2.after hq
    | next => exact False.elim hq
    | brk => exact False.elim hq
    | cont => exact False.elim hq
end K39

/-! K39, part c: the data; the small defs. -/
namespace K39
open PySem PySem.Spec PyProof.Rows L2 LamX NdefX

/-! ### the text by places -/
def top (i : Nat) : Stmt := PySem.Challenge.pw_stylehouse_k39_memo.main.body.getD i (.Pass ⟨0, 0, 0, 0⟩)
abbrev sInit : Stmt := inClass (top 1) 0
abbrev sAsk : Stmt := inClass (top 1) 1
abbrev sForget : Stmt := inClass (top 1) 2
abbrev sNews : Stmt := inClass (top 1) 3
abbrev sInputs : Stmt := top 3
abbrev sGiven : Stmt := top 4
abbrev sAsked : Stmt := top 5
abbrev sSame : Stmt := top 6
abbrev sRow : Stmt := top 7
abbrev sLaw : Stmt := top 8

/-! ### what a function gives -/
inductive Giv where
  | non | int (n : Int) | lst (ns : List Int)
def GivAt (H : Hp) (v : V) : Giv → Prop
  | .non => v = .non
  | .int n => v = .int n
  | .lst ns => ∃ a, v = .ref a ∧ H a = some (.lst (ns.map V.int))
def givOf (n : Int) : Giv := if n % 5 = 3 then .non else if n % 5 = 1 then .lst [n] else .int n
def inpOf (c : Int) : Inp := if c / 6 % 3 = 1 then .lst (c % 3) (c / 3 % 2) else if c / 6 % 3 = 2 then .dct (c % 3) (c / 3 % 2) else .tup (c % 3) (c / 3 % 2)

/-! ### a memo's attributes -/
theorem kf : ¬ (("known" : Str) = "fresh") := by decide +kernel
def flds (d1 d2 : Addr) : List (Str × V) := putF "fresh" (.ref d2) (putF "known" (.ref d1) [])
theorem flds_eq (d1 d2 : Addr) : flds d1 d2 = ([("known", V.ref d1), ("fresh", V.ref d2)] : List (Str × V)) := by
  show (if ("known" : Str) = "fresh" then [(("known" : Str), V.ref d2)] else (("known" : Str), V.ref d1) :: putF "fresh" (V.ref d2) []) = ([("known", V.ref d1), ("fresh", V.ref d2)] : List (Str × V))
  rw [if_neg kf]
  all_goals rfl
theorem flds_known (d1 d2 : Addr) : (flds d1 d2).lookup ("known" : Str) = some (.ref d1) := by
  unfold flds
  rw [lookup_putF, if_neg kf, lookup_putF, if_pos rfl]
theorem flds_fresh (d1 d2 : Addr) : (flds d1 d2).lookup ("fresh" : Str) = some (.ref d2) := by
  unfold flds
  rw [lookup_putF, if_pos rfl]
theorem flds_no (d1 d2 : Addr) {m : Str} (h1 : ¬ m = "fresh") (h2 : ¬ m = "known") : (flds d1 d2).lookup m = none := by
  unfold flds
  rw [lookup_putF, if_neg h1, lookup_putF, if_neg h2]
  all_goals rfl
theorem flds_put (d1 d2 d : Addr) : putF "fresh" (.ref d) (flds d1 d2) = flds d1 d := by
  rw [flds_eq, flds_eq]
  show (if ("known" : Str) = "fresh" then _ else (("known" : Str), V.ref d1) :: (if ("fresh" : Str) = "fresh" then [(("fresh" : Str), V.ref d)] else _)) = ([("known", V.ref d1), ("fresh", V.ref d)] : List (Str × V))
  rw [if_neg kf, if_pos rfl]

/-- what the walk asks of the top -/
structure Txt (K : PySem.W.Frag) (mg : Str → Option Value) (C : Addr) : Prop where
  cl : Cls K C
  nK : NoAttr K C "known"
  nF : NoAttr K C "fresh"
  mgC : mg "Memo" = some (.ref C)
  len : mg "len" = none
  sorted : mg "sorted" = none
  enum : mg "enumerate" = none
  isi : mg "isinstance" = none
  list : mg "list" = none
  int : mg "int" = none
  bool : mg "bool" = none

/-! ### promises -/
def spInit (C : Addr) : Sp := fun vs H Q _ => ∃ (p dx : Addr), vs = [.ref p] ∧ H p = some (.ins C dx []) ∧ ∀ (d1 d2 : Addr) (H' : Hp), H d1 = none → H d2 = none → d1 ≠ d2 → H' p = some (.ins C dx (flds d1 d2)) → H' d1 = some (.dK []) → H' d2 = some (.dK []) →
  (∀ b o, H b = some o → b ≠ p → H' b = some o) → Q .non H'
def spForget (C : Addr) : Sp := fun vs H Q _ => ∃ (p dx d1 d2 : Addr) (k : Int) (kvs : List (Key × V)), vs = [.ref p, .int k] ∧ H p = some (.ins C dx (flds d1 d2)) ∧ H d1 = some (.dK kvs) ∧
  Q .non (upd H d1 (.dK (dropK kvs (Sum.inl k))))
def spNews (C : Addr) : Sp := fun vs H Q _ => ∃ (p dx d1 d2 : Addr) (kvs : List (Key × V)) (ks : List Int), vs = [.ref p] ∧ H p = some (.ins C dx (flds d1 d2)) ∧ H d2 = some (.dK kvs) ∧ kvs.map (·.1) = ks.map Sum.inl ∧ ks.length < 64 ∧
  ∀ (ys : List Int) (l d : Addr) (H' : Hp), ys.Perm ks → ys.Pairwise (· ≤ ·) → H l = none → H d = none → l ≠ d → H' l = some (.lst (ys.map V.int)) → H' d = some (.dK []) → H' p = some (.ins C dx (flds d1 d)) → (∀ b o, H b = some o → b ≠ p → H' b = some o) → Q (.ref l) H'
def spInputs : Sp := fun vs H Q _ => ∃ c : Int, vs = [.int c] ∧ ∀ (a : Addr) (H' : Hp), Same H H' → H a = none → InpAt H' a (inpOf c) → Q (.ref a) H'
def spGiven : Sp := fun vs H Q _ => ∃ n : Int, vs = [.int n] ∧ ∀ (v : V) (H' : Hp), Same H H' → (∀ a, v = .ref a → H a = none) → GivAt H' v (givOf n) → Q v H'
def spSame (K : PySem.W.Frag) : Sp := fun vs H Q _ => ∃ (x y : V) (g : Giv), vs = [x, y] ∧ GivAt H x g ∧ GivAt H y g ∧ Q (.bl true) H
def spRow (K : PySem.W.Frag) : Sp := fun vs H Q _ => ∃ (a b : Addr) (ys : List Int), vs = [.ref a, .ref b] ∧ H a = some (.lst (ys.map V.int)) ∧ H b = some (.lst (ys.map V.int)) ∧ Q (.bl true) H
theorem upd_self {H : Hp} {a : Addr} {o : HO} (h : H a = some o) : upd H a o = H := by
  funext b
  by_cases e : b = a
  · subst e
    rw [upd_same, h]
  · rw [upd_ne e]
theorem same_upd {H : Hp} {p : Addr} {o : HO} (n : H p = none) : Same H (upd H p o) := fun b u e => by
  rw [upd_ne (ne_of_none e n)]
  exact e
theorem dec_of {i j : Int} (h : decide (V.int i = V.int j) = true) : i = j := V.int.inj (of_decide_eq_true h)
theorem ndec_of {i j : Int} (h : ¬ decide (V.int i = V.int j) = true) : ¬ i = j := fun e => h (decide_eq_true (congrArg V.int e))

section
variable {P : Program} {w : World} {K : PySem.W.Frag} {mg : Str → Option Value} {base : Heap}
theorem scI : FnScope ["self"] ["self"] (defScope sInit) := ⟨rfl, rfl, rfl, by decide +kernel, rfl, by decide +kernel, by decide +kernel⟩
theorem ok_init {f C : Addr} {fd : FuncData} (F : Fun K "__init__" "Memo.__init__" sInit f fd) (T : Txt K mg C) : FnOk P w K mg base CX0 1 f fd ["self"] (spInit C) := by
  refine F.ok scI (fun vs H Q E h => ?_) (fun cdv A outer s H vs Q E hr h => ?_)
  · obtain ⟨p, dx, rfl, _⟩ := h
    rfl
  · obtain ⟨p, dx, rfl, hp, k⟩ := h
    refine ⟨_, pss_cons (ps_fld (pv 0) pe_dnewK rfl) (pss_one (ps_fld (pv 0) pe_dnewK rfl)), ?_⟩
    intro d hd
    have npd : p ≠ d := ne_of_none hp hd
    refine ⟨_, rfl, p, C, dx, [], rfl, (by rw [upd_ne npd]; exact hp), T.cl, T.nK, (by show 0 < 1000; decide), ?_⟩
    intro d' hd'
    have npd' : p ≠ d' := ne_of_none upd_same hd'
    have ndd : d ≠ d' := fun e => by
      rw [← e, upd_ne npd.symm, upd_same] at hd'
      cases hd'
    have hd0 : H d' = none := by
      rw [upd_ne npd'.symm, upd_ne ndd.symm] at hd'
      exact hd'
    refine ⟨_, rfl, p, C, dx, _, rfl, (by rw [upd_ne npd']; exact upd_same), T.cl, T.nF, (by show 1 < 1000; decide), ?_⟩
    refine k d d' _ hd hd0 ndd upd_same ?_ ?_ fun b o e hb => ?_
    · rw [upd_ne npd.symm, upd_ne ndd, upd_ne npd.symm, upd_same]
    · rw [upd_ne npd'.symm, upd_same]
    · rw [upd_ne hb, upd_ne (ne_of_none e hd0), upd_ne hb, upd_ne (ne_of_none e hd)]
      exact e
theorem scF : FnScope ["self", "key"] ["self", "key"] (defScope sForget) := ⟨rfl, rfl, rfl, by decide +kernel, rfl, by decide +kernel, by decide +kernel⟩
theorem ok_forget {f C : Addr} {fd : FuncData} (F : Fun K "forget" "Memo.forget" sForget f fd) (T : Txt K mg C) : FnOk P w K mg base CX0 1 f fd ["self", "key"] (spForget C) := by
  refine F.ok scF (fun vs H Q E h => ?_) (fun cdv A outer s H vs Q E hr h => ?_)
  · obtain ⟨p, dx, d1, d2, k, kvs, rfl, _⟩ := h
    rfl
  · obtain ⟨p, dx, d1, d2, k, kvs, rfl, hp, hd, q⟩ := h
    refine ⟨_, pss_one (ps_expr (pe_dpop2 (pe_fld (pv 0) rfl) (pv 1) pe_non ⟨rfl, rfl, rfl, rfl⟩)), ?_⟩
    refine ⟨_, rfl, p, C, dx, _, _, rfl, hp, T.cl, T.nK, flds_known _ _, d1, rfl, .inl ⟨kvs, .inl hd⟩, _, rfl, kvs, Sum.inl k, hd, rfl, fun v _ => q, fun hn => ?_⟩
    have e : dropK kvs (Sum.inl k : Key) = kvs := dropK_no (valV_not hn)
    rw [e, upd_self hd] at q
    exact q
theorem scN : FnScope ["self", "found"] ["self"] (defScope sNews) := ⟨rfl, rfl, rfl, by decide +kernel, rfl, by decide +kernel, by decide +kernel⟩
theorem ok_news {f C : Addr} {fd : FuncData} (F : Fun K "news" "Memo.news" sNews f fd) (T : Txt K mg C) : FnOk P w K mg base CX0 1 f fd ["self"] (spNews C) := by
  refine F.ok scN (fun vs H Q E h => ?_) (fun cdv A outer s H vs Q E hr h => ?_)
  · obtain ⟨p, dx, d1, d2, kvs, ks, rfl, _⟩ := h
    rfl
  · obtain ⟨p, dx, d1, d2, kvs, ks, rfl, hp, hd, hk, h64, q⟩ := h
    refine ⟨_, pss_cons (ps_set (i := 1) scN.nd rfl (Or.inl rfl) (pe_callB (call_sortedDI rfl) (by rfl) T.sorted PyProof.Rows.boot_sorted (pa_cons (pe_fld (pv 0) rfl) pa_nil)))
      (pss_cons (ps_fld (pv 0) pe_dnewK rfl) (pss_one (ps_ret (pv 1)))), ?_⟩
    refine ⟨_, rfl, p, C, dx, _, _, rfl, hp, T.cl, T.nF, flds_fresh _ _, d2, kvs, ks, rfl, .inl hd, hk, h64, fun ys l hperm hpw hl => ?_⟩
    have npl : p ≠ l := ne_of_none hp hl
    intro d hd'
    have npd : p ≠ d := ne_of_none (H := upd H l (.lst (ys.map V.int))) (by rw [upd_ne npl]; exact hp) hd'
    have nld : l ≠ d := ne_of_none upd_same hd'
    have hd0 : H d = none := by
      rw [upd_ne nld.symm] at hd'
      exact hd'
    refine ⟨_, rfl, p, C, dx, _, rfl, (by rw [upd_ne npd, upd_ne npl]; exact hp), T.cl, T.nF, (by rw [flds_eq]; show 2 < 1000; decide), ?_⟩
    refine ⟨_, rfl, ?_⟩
    refine q ys l d _ hperm hpw hl hd0 nld ?_ ?_ (Eq.trans upd_same (congrArg (fun z => some (HO.ins C dx z)) (flds_put d1 d2 d))) fun b o e hb => ?_
    · rw [upd_ne npl.symm, upd_ne nld, upd_same]
    · rw [upd_ne npd.symm, upd_same]
    · rw [upd_ne hb, upd_ne (ne_of_none e hd0), upd_ne (ne_of_none e hl)]
      exact e
theorem scG : FnScope ["_law_number"] ["_law_number"] (defScope sGiven) := ⟨rfl, rfl, rfl, by decide +kernel, rfl, by decide +kernel, by decide +kernel⟩
theorem ok_given {f : Addr} {fd : FuncData} (F : Fun K "_law_given_by" "_law_given_by" sGiven f fd) : FnOk P w K mg base CX0 1 f fd ["_law_number"] spGiven := by
  refine F.ok scG (fun vs H Q E h => ?_) (fun cdv A outer s H vs Q E hr h => ?_)
  · obtain ⟨n, rfl, _⟩ := h
    rfl
  · obtain ⟨n, rfl, q⟩ := h
    refine ⟨_, pss_cons (ps_if (pt_cmpR op_eq (pe_op op_mod (pv 0) pe_int) pe_int (nomark _)) (pss_one (ps_ret pe_non)) pss_nil)
      (pss_cons (ps_if (pt_cmpR op_eq (pe_op op_mod (pv 0) pe_int) pe_int (nomark _)) (pss_one (ps_ret (pe_lst (pa_cons (pv 0) pa_nil)))) pss_nil)
      (pss_one (ps_ret (pv 0)))), ?_⟩
    refine ⟨_, rfl, _, _, rfl, rfl, (by show (0 : Int) < 5; decide), rfl, _, rfl, ?_⟩
    refine ite2 (fun h3 => ?_) (fun h3 => ?_)
    · refine q .non H (Same.refl H) (fun _ z => nomatch z) ?_
      unfold givOf
      rw [if_pos (dec_of h3)]
      exact rfl
    refine ⟨_, rfl, _, _, rfl, rfl, (by show (0 : Int) < 5; decide), rfl, _, rfl, ?_⟩
    refine ite2 (fun h1 => ?_) (fun h1 => ?_)
    · refine ⟨_, rfl, (by show 1 ≤ sizeLine; decide), fun l hl => ?_⟩
      refine q (.ref l) _ (same_upd hl) (fun a e => by cases e; exact hl) ?_
      unfold givOf
      rw [if_neg (ndec_of h3), if_pos (dec_of h1)]
      exact ⟨l, rfl, upd_same⟩
    · refine ⟨_, rfl, ?_⟩
      refine q (.int n) H (Same.refl H) (fun _ z => nomatch z) ?_
      unfold givOf
      rw [if_neg (ndec_of h3), if_neg (ndec_of h1)]
      exact rfl
theorem scP : FnScope ["_law_cell", "_law_one", "_law_other"] ["_law_cell"] (defScope sInputs) := ⟨rfl, rfl, rfl, by decide +kernel, rfl, by decide +kernel, by decide +kernel⟩
theorem merge2 (x y : V) : mergeK [] [((Sum.inr "one" : Key), x), (Sum.inr "other", y)] = [((Sum.inr "one" : Key), x), (Sum.inr "other", y)] := by
  unfold mergeK putK
  simp [one_other]
theorem ok_inputs {f : Addr} {fd : FuncData} (F : Fun K "_law_inputs_by" "_law_inputs_by" sInputs f fd) : FnOk P w K mg base CX0 1 f fd ["_law_cell"] spInputs := by
  refine F.ok scP (fun vs H Q E h => ?_) (fun cdv A outer s H vs Q E hr h => ?_)
  · obtain ⟨c, rfl, _⟩ := h
    rfl
  · obtain ⟨c, rfl, q⟩ := h
    refine ⟨_, pss_cons (ps_set (i := 1) scP.nd rfl (Or.inl rfl) (pe_op op_mod (pv 0) pe_int))
      (pss_cons (ps_set (i := 2) scP.nd rfl (Or.inl rfl) (pe_op op_mod (pe_op op_fdiv (pv 0) pe_int) pe_int))
      (pss_cons (ps_if (pt_cmpR op_eq (pe_op op_mod (pe_op op_fdiv (pv 0) pe_int) pe_int) pe_int (nomark _)) (pss_one (ps_ret (pe_lst (pa_cons (pv 1) (pa_cons (pv 2) pa_nil))))) pss_nil)
      (pss_cons (ps_if (pt_cmpR op_eq (pe_op op_mod (pe_op op_fdiv (pv 0) pe_int) pe_int) pe_int (nomark _))
        (pss_one (ps_ret (pe_disp (pps_cons pe_str (pv 1) (pps_cons pe_str (pe_tup (pa_cons (pv 2) (pa_cons pe_str pa_nil))) pps_nil)) (by rfl) (by rfl) (fun z => by cases z) (by decide)))) pss_nil)
      (pss_one (ps_ret (pe_tup (pa_cons (pv 1) (pa_cons pe_str (pa_cons (pv 2) pa_nil))))))))), ?_⟩
    refine ⟨_, rfl, _, _, rfl, rfl, (by show (0 : Int) < 3; decide), ?_⟩
    refine ⟨_, rfl, _, _, rfl, rfl, ⟨by decide, by decide⟩, _, _, rfl, rfl, (by show (0 : Int) < 2; decide), ?_⟩
    refine ⟨_, rfl, _, _, rfl, rfl, ⟨by decide, by decide⟩, _, _, rfl, rfl, (by show (0 : Int) < 3; decide), rfl, _, rfl, ?_⟩
    refine ite2 (fun h1 => ?_) (fun h1 => ?_)
    · refine ⟨_, rfl, _, rfl, (by show 2 ≤ sizeLine; decide), fun l hl => ?_⟩
      refine q l _ (same_upd hl) hl ?_
      unfold inpOf
      rw [if_pos (dec_of h1)]
      exact upd_same
    refine ⟨_, rfl, _, _, rfl, rfl, ⟨by decide, by decide⟩, _, _, rfl, rfl, (by show (0 : Int) < 3; decide), rfl, _, rfl, ?_⟩
    refine ite2 (fun h2 => ?_) (fun h2 => ?_)
    · intro p hp
      refine ⟨_, rfl, _, rfl, (by show 2 ≤ sizeLine; decide), fun t ht => ?_⟩
      have npt : p ≠ t := ne_of_none upd_same ht
      have ht0 : H t = none := by
        rw [upd_ne npt.symm] at ht
        exact ht
      refine ⟨by rw [upd_ne npt, upd_same], [((Sum.inr "one" : Key), V.int (c % 3)), (Sum.inr "other", .ref t)], rfl, (by show 2 ≤ 15; decide), ?_⟩
      refine q p _ (fun b o e => ?_) hp ?_
      · rw [upd_ne (ne_of_none e hp), upd_ne (ne_of_none e ht0), upd_ne (ne_of_none e hp)]
        exact e
      · unfold inpOf
        rw [if_neg (ndec_of h1), if_pos (dec_of h2)]
        refine ⟨t, ?_, ?_⟩
        · rw [upd_same, merge2]
        · rw [upd_ne npt.symm, upd_same]
    · refine ⟨_, rfl, _, rfl, (by show 3 ≤ sizeLine; decide), fun t ht => ?_⟩
      refine q t _ (same_upd ht) ht ?_
      unfold inpOf
      rw [if_neg (ndec_of h1), if_neg (ndec_of h2)]
      exact upd_same
theorem scS : FnScope ["_law_one", "_law_other"] ["_law_one", "_law_other"] (defScope sSame) := ⟨rfl, rfl, rfl, by decide +kernel, rfl, by decide +kernel, by decide +kernel⟩
theorem canLay_ints (ns : List Int) : (PyData.list (ns.map PyData.int)).canLay0 = true := SeqAt.canLay_of_shaped (PySem.W.shaped_ints ns)
theorem dpAll_ints {K : PySem.W.Frag} {H : Hp} : ∀ ns : List Int, DpAll K H (ns.map V.int) (ns.map PyData.int)
  | [] => .nil
  | n :: r => .cons (.int n) (dpAll_ints r)
theorem dp_ints {K : PySem.W.Frag} {H : Hp} {a : Addr} {ns : List Int} (h : H a = some (.lst (ns.map V.int))) : Dp K H (.ref a) (.list (ns.map PyData.int)) := .lst (SqL.of h) (dpAll_ints ns)
theorem eqv_same (ns : List Int) : PyData.eqv (.list (ns.map PyData.int)) (.list (ns.map PyData.int)) = true := SeqAt.eqv_refl _ (canLay_ints ns)
theorem ok_same {f C : Addr} {fd : FuncData} (F : Fun K "_law_same" "_law_same" sSame f fd) (T : Txt K mg C) : FnOk P w K mg base CX0 1 f fd ["_law_one", "_law_other"] (spSame K) := by
  refine F.ok scS (fun vs H Q E h => ?_) (fun cdv A outer s H vs Q E hr h => ?_)
  · obtain ⟨x, y, g, rfl, _⟩ := h
    rfl
  · obtain ⟨x, y, g, rfl, hx, hy, q⟩ := h
    refine ⟨_, pss_cons (ps_if (pt_cmp (pc_isN (pv 1))) (pss_one (ps_ret (pe_cmp (pc_isN (pv 0)) rfl))) pss_nil)
      (pss_cons (ps_if (pt_val (pe_callB call_isi (by rfl) T.isi PyProof.Rows.boot_isinstance (pa_cons (pv 1) (pa_cons (pe_bltn (v := .ty "list") (by rfl) T.list PyProof.Rows.boot_list rfl) pa_nil))))
        (pss_one (ps_ret (pe_and (pe_callB call_isi (by rfl) T.isi PyProof.Rows.boot_isinstance (pa_cons (pv 0) (pa_cons (pe_bltn (v := .ty "list") (by rfl) T.list PyProof.Rows.boot_list rfl) pa_nil)))
          (pe_one (pe_cmpR (OpR.or op_eq (op_eqD hr.units)) (pv 0) (pv 1) (nomark _)))))) pss_nil)
      (pss_one (ps_ret (pe_and (pe_callB call_isi (by rfl) T.isi PyProof.Rows.boot_isinstance (pa_cons (pv 0) (pa_cons (pe_bltn (v := .ty "int") (by rfl) T.int PyProof.Rows.boot_int rfl) pa_nil)))
        (pe_and (pe_not (pe_callB call_isi (by rfl) T.isi PyProof.Rows.boot_isinstance (pa_cons (pv 0) (pa_cons (pe_bltn (v := .ty "bool") (by rfl) T.bool PyProof.Rows.boot_bool rfl) pa_nil))))
          (pe_one (pe_cmpR (OpR.or op_eq (op_eqD hr.units)) (pv 0) (pv 1) (nomark _)))))))), ?_⟩
    refine ⟨_, rfl, _, rfl, ?_⟩
    cases g with
    | non =>
      obtain rfl : x = V.non := hx
      obtain rfl : y = V.non := hy
      refine iteT ?_
      exact ⟨_, rfl, q⟩
    | int n =>
      obtain rfl : x = V.int n := hx
      obtain rfl : y = V.int n := hy
      refine iteF ?_
      refine ⟨_, rfl, _, _, _, _, false, rfl, .ty _, .base (.int n), kit_ty (by decide +kernel), _, rfl, ?_⟩
      refine iteF ?_
      refine ⟨_, rfl, _, _, _, _, true, rfl, .ty _, .base (.int n), kit_ty (by decide +kernel), _, rfl, ?_⟩
      refine iteT ?_
      refine ⟨_, rfl, _, _, _, _, false, rfl, .ty _, .base (.int n), kit_ty (by decide +kernel), _, rfl, _, rfl, ?_⟩
      refine iteT ?_
      refine ⟨_, rfl, _, rfl, .inl ⟨rfl, ?_⟩⟩
      rw [decide_eq_true rfl]
      exact q
    | lst ns =>
      obtain ⟨a, rfl, ha⟩ := hx
      obtain ⟨b, rfl, hb⟩ := hy
      refine iteF ?_
      refine ⟨_, rfl, _, _, _, _, true, rfl, .ty _, .base (.lst hb), kit_ty (by decide +kernel), _, rfl, ?_⟩
      refine iteT ?_
      refine ⟨_, rfl, _, _, _, _, true, rfl, .ty _, .base (.lst ha), kit_ty (by decide +kernel), _, rfl, ?_⟩
      refine iteT ?_
      refine ⟨_, rfl, _, rfl, .inr ⟨_, _, dp_ints ha, dp_ints hb, PySem.W.shaped_ints ns, PySem.W.shaped_ints ns, ?_⟩⟩
      rw [eqv_same]
      exact q
theorem scR : FnScope ["_law_row", "_law_due", "_law_key"] ["_law_row", "_law_due"] (defScope sRow) := ⟨rfl, rfl, rfl, by decide +kernel, rfl, by decide +kernel, by decide +kernel⟩
theorem ok_row {f C : Addr} {fd : FuncData} (F : Fun K "_law_whole_row" "_law_whole_row" sRow f fd) (T : Txt K mg C) : FnOk P w K mg base CX0 1 f fd ["_law_row", "_law_due"] (spRow K) := by
  refine F.ok scR (fun vs H Q E h => ?_) (fun cdv A outer s H vs Q E hr h => ?_)
  · obtain ⟨a, b, ys, rfl, _⟩ := h
    rfl
  · obtain ⟨a, b, ys, rfl, ha, hb, q⟩ := h
    refine ⟨_, pss_cons (ps_if (pt_not (pt_val (pe_callB call_isi (by rfl) T.isi PyProof.Rows.boot_isinstance (pa_cons (pv 0) (pa_cons (pe_bltn (v := .ty "list") (by rfl) T.list PyProof.Rows.boot_list rfl) pa_nil))))) (pss_one (ps_ret pe_bl)) pss_nil)
      (pss_cons (ps_for PassesOwn.never rfl (pi_list (pv 0)) (pg_name (i := 2) scR.nd rfl (Or.inl rfl))
        (pss_one (ps_if (PW.pt (pw_or (pt_not (pt_val (pe_callB call_isi (by rfl) T.isi PyProof.Rows.boot_isinstance (pa_cons (pv 2) (pa_cons (pe_bltn (v := .ty "int") (by rfl) T.int PyProof.Rows.boot_int rfl) pa_nil)))))
          (pw_or1 (pt_val (pe_callB call_isi (by rfl) T.isi PyProof.Rows.boot_isinstance (pa_cons (pv 2) (pa_cons (pe_bltn (v := .ty "bool") (by rfl) T.bool PyProof.Rows.boot_bool rfl) pa_nil))))))) (pss_one (ps_ret pe_bl)) pss_nil)))
      (pss_one (ps_ret (pe_cmpR (op_eqD hr.units) (pv 0) (pv 1) (nomark _))))), ?_⟩
    refine ⟨_, rfl, _, _, _, _, true, rfl, .ty _, .base (.lst ha), kit_ty (by decide +kernel), _, rfl, ?_⟩
    refine iteF ?_
    refine ⟨_, rfl, a, rfl, ⟨_, SqL.of ha⟩, for_list (K := K) (a := a) (xs := ys.map V.int) (fun i σ H2 => ∃ v : Option V, σ = [some (.ref a), some (.ref b), v] ∧ H2 = H) ⟨none, rfl, rfl⟩ (fun i σ H2 _ ⟨_, _, e⟩ => by rw [e]; exact SqL.of ha) ?_ ?_⟩
    · rintro i y σ H2 hi ⟨v, rfl, rfl⟩
      obtain ⟨z, rfl⟩ : ∃ z, y = V.int z := by
        rw [List.getElem?_map] at hi
        cases e : ys[i]? with
        | none =>
          rw [e] at hi
          cases hi
        | some z =>
          rw [e] at hi
          exact ⟨z, (Option.some.inj hi).symm⟩
      refine ⟨_, rfl, _, _, _, _, true, rfl, .ty _, .base (.int z), kit_ty (by decide +kernel), _, rfl, ?_⟩
      refine iteF ?_
      refine ⟨_, rfl, _, _, _, _, false, rfl, .ty _, .base (.int z), kit_ty (by decide +kernel), _, rfl, ?_⟩
      refine iteF ?_
      exact ⟨_, rfl, rfl⟩
    · rintro σ H2 ⟨v, rfl, rfl⟩
      refine ⟨_, rfl, _, rfl, _, _, dp_ints ha, dp_ints hb, PySem.W.shaped_ints ys, PySem.W.shaped_ints ys, ?_⟩
      rw [eqv_same]
      exact q
end
end K39

/-! K39, part d: the asking. -/
namespace K39
open PySem PySem.Spec PyProof.Rows L2 LamX NdefX

/-! ### what is kept for a key -/
structure EntB where
  t : Addr
  i : Addr
  g : V
  inp : Inp
  giv : Giv
def dictOf (L : List (Int × EntB)) : List (Key × V) := L.map fun p => ((Sum.inl p.1 : Key), V.ref p.2.t)
def EntAt (H : Hp) (e : EntB) : Prop := H e.t = some (.tup [.ref e.i, e.g]) ∧ InpAt H e.i e.inp ∧ GivAt H e.g e.giv
theorem inl_dec (a b : Int) : decide ((Sum.inl a : Key) = Sum.inl b) = decide (a = b) := by
  by_cases h : a = b
  · subst h
    rw [decide_eq_true rfl, decide_eq_true rfl]
  · rw [decide_eq_false h, decide_eq_false fun z => h (Sum.inl.inj z)]
theorem dictOf_any (k : Int) : ∀ L : List (Int × EntB), ((dictOf L).any fun kv => decide (kv.1 = Sum.inl k)) = L.any fun p => decide (p.1 = k)
  | [] => rfl
  | p :: r => by
    show (decide ((Sum.inl p.1 : Key) = Sum.inl k) || ((dictOf r).any fun kv => decide (kv.1 = Sum.inl k))) = _
    rw [dictOf_any k r, List.any_cons, inl_dec]
theorem dictOf_put (L : List (Int × EntB)) (k : Int) (e : EntB) : putK (dictOf L) (Sum.inl k) (.ref e.t) = dictOf (putG L k e) := by
  unfold putK putG
  rw [dictOf_any]
  split
  · unfold dictOf
    rw [List.map_map, List.map_map]
    refine List.map_congr_left fun p _ => ?_
    by_cases h : p.1 = k
    · have h' : (Sum.inl p.1 : Key) = Sum.inl k := congrArg Sum.inl h
      simp [h]
    · have h' : ¬ (Sum.inl p.1 : Key) = Sum.inl k := fun z => h (Sum.inl.inj z)
      simp [h]
  · unfold dictOf
    rw [List.map_append]
    rfl
theorem dictOf_val (k : Int) : ∀ L : List (Int × EntB), valV (dictOf L) (Sum.inl k) = (findG L k).map fun e => V.ref e.t
  | [] => rfl
  | p :: r => by
    have ih := dictOf_val k r
    by_cases h : p.1 = k
    · have e1 : valV (dictOf (p :: r)) (Sum.inl k) = some (V.ref p.2.t) := valV_pos (p := ((Sum.inl p.1 : Key), V.ref p.2.t)) (congrArg Sum.inl h)
      rw [e1]
      unfold findG
      rw [List.find?_cons]
      simp [h]
    · have e1 : valV (dictOf (p :: r)) (Sum.inl k) = valV (dictOf r) (Sum.inl k) := valV_neg (p := ((Sum.inl p.1 : Key), V.ref p.2.t)) fun z => h (Sum.inl.inj z)
      rw [e1, ih]
      unfold findG
      rw [List.find?_cons]
      simp [h]
theorem dictOf_drop (L : List (Int × EntB)) (k : Int) : dropK (dictOf L) (Sum.inl k) = dictOf (dropG L k) := by
  unfold dropK dropG dictOf
  rw [List.filter_map]
  congr 1
  refine List.filter_congr fun p _ => ?_
  show decide ((Sum.inl p.1 : Key) ≠ Sum.inl k) = decide (p.1 ≠ k)
  rw [decide_not, decide_not, inl_dec]
theorem dictOf_len (L : List (Int × EntB)) : (dictOf L).length = L.length := List.length_map _

/-! ### what stays -/
theorem GivAt.keep {H H' : Hp} {v : V} : ∀ {g : Giv}, GivAt H v g → (∀ b xs, v = .ref b → H b = some (.lst xs) → H' b = some (.lst xs)) → GivAt H' v g
  | .non, h, _ => h
  | .int _, h, _ => h
  | .lst ns, ⟨a, e, h⟩, k => ⟨a, e, k a _ e h⟩
theorem InpAt.keep {H H' : Hp} {a : Addr} : ∀ {p : Inp}, InpAt H a p → (∀ o, H a = some o → H' a = some o) → (∀ b xs, H b = some (.tup xs) → H' b = some (.tup xs)) → InpAt H' a p
  | .tup _ _, h, k, _ => k _ h
  | .lst _ _, h, k, _ => k _ h
  | .dct _ _, ⟨t, h1, h2⟩, k, kt => ⟨t, k _ h1, kt _ _ h2⟩
theorem TabsN.keep {T : List NTab} {H H' : Hp} (t : TabsN T H) (e : ∀ b o, H b = some o → (∀ xs, o ≠ .lst xs) → (∀ kvs, o ≠ .dK kvs) → (∀ C dx fs, o ≠ .ins C dx fs) → H' b = some o) : TabsN T H' := fun p hp => by
  obtain ⟨ps, h1, h2, h3⟩ := t p hp
  refine ⟨ps, e _ _ h1 (fun _ z => nomatch z) (fun _ z => nomatch z) (fun _ _ _ z => nomatch z), h2, fun pos cv hc => ?_⟩
  obtain ⟨c, e1, e2⟩ := h3 pos cv hc
  refine ⟨c, e1, e _ _ e2 (fun _ z => ?_) (fun _ z => ?_) (fun _ _ _ z => ?_)⟩
  all_goals
    unfold CodeO at z
    cases z

/-! ### the function that is handed in -/
abbrev sReck : Stmt := (defBody sAsked).getD 0 (.Pass ⟨0, 0, 0, 0⟩)
abbrev frR : List Str := ["_law_calls", "_law_number"]
def spReck : List (Option V) → Sp := fun ws vs H Q _ => ∃ (lc : Addr) (n : Int) (xs : List V), ws = [some (.ref lc), some (.int n)] ∧ vs = [] ∧ H lc = some (.lst xs) ∧ xs.length < 1000 ∧
  ∀ (v : V) (H' : Hp), Same (upd H lc (.lst (xs ++ [.int n]))) H' → (∀ a, v = .ref a → H a = none) → GivAt H' v (givOf n) → Q v H'
section
variable {P : Program} {w : World} {K : PySem.W.Frag} {mg : Str → Option Value} {base : Heap}
theorem scNR : NScope frR [] frR (C8.fnScope sReck) := nscope_by (by decide +kernel)
theorem ok_reck {f fG c : Addr} {q : Str} {cl : List (Str × Addr)} {fdG : FuncData} (FG : Fun K "_law_given_by" "_law_given_by" sGiven fG fdG) (bG : L2.Binds K fdG ["_law_number"] []) (mG : mg "_law_given_by" = some (.ref fG)) :
    NOk P w K mg base CX0 2 f (NF.of sReck "_law_reckon" q cl c) [] frR spReck := by
  have GG : FnOk P w K mg base CX0 1 fG fdG ["_law_number"] spGiven := ok_given FG
  refine nok_of (N := frR) scNR (fun _ _ _ us hl => match us, hl with | [], _ => rfl) (fun ws vs H Q E h => ?_) (fun A outer s H vs ws Q E hr hf hc hl h => ?_)
  · obtain ⟨lc, n, xs, _, rfl, _⟩ := h
    rfl
  · obtain ⟨lc, n, xs, rfl, rfl, hlc, hx, q⟩ := h
    refine ⟨_, PSs.nox (pss_cons (ps_expr (pe_bm PySem.F.plainAttrs_list PySem.F.slot_list_append PySem.F.type_list_append mt_append (pv 0) (pa_cons (pv 1) pa_nil)))
      (pss_one (ps_ret (pe_call GG hr (by rfl) mG FG.kp bG .nil pass0 (pa_cons (pv 1) pa_nil))))), ?_⟩
    refine ⟨_, rfl, .inl ⟨rfl, _, SqL.of hlc⟩, _, rfl, lc, xs, _, rfl, rfl, hlc, small1000 (by omega), ?_⟩
    refine ⟨_, rfl, n, rfl, fun v H' sm nv gv => ?_⟩
    refine q v H' sm (fun a e => ?_) gv
    have z := nv a e
    by_cases ea : a = lc
    · subst ea
      rw [upd_same] at z
      cases z
    · rw [upd_ne ea] at z
      exact z
end

/-! ### Memo.ask in the asker's hands -/
abbrev nAsk : List Str := ["self", "key", "inputs", "reckon", "before", "kept", "made"]
abbrev psAsk : List Str := ["self", "key", "inputs", "reckon"]
theorem scK : FnScope nAsk psAsk (defScope sAsk) := ⟨rfl, rfl, rfl, by decide +kernel, rfl, by decide +kernel, by decide +kernel⟩
/-- what is asked of the slots, the arguments and the heap; mk: the function handed in, by its code object; js: where its captured names stand -/
def rAsk (C : Addr) (mk : Addr → NF) (js : List Nat) : L2.St → List V → Hp → VK → Prop := fun σ vs H Q => ∃ (p dx d1 d2 : Addr) (k : Int) (a f c' : Addr) (L : List (Int × EntB)) (Fr : List (Key × V)) (inp : Inp),
  vs = [.ref p, .int k, .ref a, .ref f] ∧ H p = some (.ins C dx (flds d1 d2)) ∧ H d1 = some (.dK (dictOf L)) ∧ H d2 = some (.dK Fr) ∧ L.length < 1000 ∧ Fr.length < 1000 ∧ InpAt H a inp ∧ (∀ q ∈ L, EntAt H q.2) ∧ d1 ≠ d2 ∧
  (∀ e, findG L k = some e → e.inp = inp → Q e.g H) ∧
  ((∀ e, findG L k = some e → e.inp ≠ inp) → H f = some (FnO f (mk c')) ∧ H (mk c').c = some (CodeO (mk c').c (mk c').qual) ∧
    spReck (js.map (slotAt σ)) [] H (fun v H1 => H1 p = some (.ins C dx (flds d1 d2)) ∧ H1 d1 = some (.dK (dictOf L)) ∧ H1 d2 = some (.dK Fr) ∧
      ∀ t, H1 t = none → Q v (upd (upd (upd H1 t (.tup [.ref a, v])) d1 (.dK (putK (dictOf L) (Sum.inl k) (.ref t)))) d2 (.dK (putK Fr (Sum.inl k) (.bl true))))) E0)
theorem ask_reads {X : Cx} {pins : List (Addr × Obj)} {σ : L2.St} {H : Hp} {s : Shared} {vs : List V} {Q : VK} {C fK : Addr} {cdv : Value} {mk : Addr → NF} {js : List Nat} {cl : List (Str × Addr)}
    (T : Txt X.K X.mg C) (I : Inv X pins σ H s) (hfn : ∀ x, X.fn x = true) (hcl : ∀ c', (mk c').cl = cl) (cp : X.Ok → Caps X cl frR js) (Fn : ∀ f c', NOk X.prog X.w X.K X.mg X.base CX0 2 f (mk c') [] frR spReck)
    (h : rAsk C mk js σ vs H Q) : vs.length = psAsk.length ∧ (Room 2 (X.A.deeper (envOfC "Memo.ask" (defScope sAsk) s.heap.objs.size fK cdv)) →
      ∃ t, PSs (inCx X nAsk "Memo.ask" (defScope sAsk) fK cdv s H) (defBody sAsk) t ∧ t { nx := fun _ H' => Q .non H', rt := Q } (start nAsk vs) H) := by
  obtain ⟨p, dx, d1, d2, k, a, f, c', L, Fr, inp, rfl, hp, hd1, hd2, hL, hF, ha, hE, n12, hit, miss⟩ := h
  refine ⟨rfl, fun hr => ?_⟩
  have hu := hu_of hr
  have hu2 : (X.A.deeper (envOfC "Memo.ask" (defScope sAsk) s.heap.objs.size fK cdv)).units + 66 < cLine := by
    have := hr.un
    omega
  have cpF : Caps X (mk c').cl frR js := by
    rw [hcl c']
    exact cp I.ok
  refine ⟨_, pss_cons (ps_if (pt_cmp (pc_din hu (pv 1) (pe_fld (pv 0) rfl)))
      (pss_cons (ps_asg (pe_dget hu (pe_fld (pv 0) rfl) (pv 1) (fun _ _ => rfl)) (pg_tup rfl (pgs_cons (pg_name (i := 4) scK.nd rfl (Or.inl rfl)) (pgs_cons (pg_name (i := 5) scK.nd rfl (Or.inl rfl)) pgs_nil))))
      (pss_one (ps_if (pt_cmpR (op_eqX hu2) (pv 4) (pv 2) (nomark _)) (pss_one (ps_ret (pv 5))) pss_nil))) pss_nil)
    (pss_cons (ps_set (i := 6) scK.nd rfl (Or.inl rfl) (pe_actN (i := 3) I hfn cpF hr (Fn f c') rfl (Or.inl rfl)))
    (pss_cons (ps_dput hu (pe_fld (pv 0) rfl) (pv 1) (pe_tup (pa_cons (pv 2) (pa_cons (pv 6) pa_nil))) rfl)
    (pss_cons (ps_dput hu (pe_fld (pv 0) rfl) (pv 1) pe_bl rfl)
    (pss_one (ps_ret (pv 6)))))), ?_⟩
  -- what follows the test
  have n1p : d1 ≠ p := ne_of hd1 hp (by intro z; cases z)
  have n2p : d2 ≠ p := ne_of hd2 hp (by intro z; cases z)
  have hR : (∀ e, findG L k = some e → e.inp ≠ inp) → ∀ b4 b5 : Option V, tSeq (tAsg (tAct 3 f (mk c') (js.map (slotAt σ)) spReck) (gName 6)) (tSeq (sDPut (tFld X.K (tVar 0) "known") (tVar 1) (tTup (tCons (tVar 2) (tCons (tVar 6) tNil))))
      (tSeq (sDPut (tFld X.K (tVar 0) "fresh") (tVar 1) (tC (.bl true))) (tRet (tVar 6)))) { nx := fun _ H' => Q .non H', rt := Q } [some (.ref p), some (.int k), some (.ref a), some (.ref f), b4, b5, none] H := fun hm b4 b5 => by
    obtain ⟨hf, hc, lc, n, xs, hws, _, hlc, hxs, q⟩ := miss hm
    refine ⟨rfl, hf, hc, lc, n, xs, hws, rfl, hlc, hxs, fun v H' sm nv gv => ?_⟩
    obtain ⟨g1, g2, g3, q⟩ := q v H' sm nv gv
    refine ⟨_, rfl, _, rfl, (by show 2 ≤ sizeLine; decide), fun t ht => ?_⟩
    have npt : p ≠ t := ne_of_none g1 ht
    have n1t : d1 ≠ t := ne_of_none g2 ht
    have n2t : d2 ≠ t := ne_of_none g3 ht
    refine ⟨_, rfl, p, C, dx, _, _, rfl, (by rw [upd_ne npt]; exact g1), T.cl, T.nK, flds_known _ _, _, rfl, d1, _, rfl, DPut.k (k := Sum.inl k) (by rw [upd_ne n1t]; exact g2) (small1000 (by rw [dictOf_len]; omega)), ?_⟩
    refine ⟨_, rfl, p, C, dx, _, _, rfl, (by rw [upd_ne n1p.symm, upd_ne npt]; exact g1), T.cl, T.nF, flds_fresh _ _, _, rfl, d2, _, rfl, DPut.k (k := Sum.inl k) (by rw [upd_ne n12.symm, upd_ne n2t]; exact g3) (small1000 (by omega)), ?_⟩
    exact ⟨_, rfl, q t ht⟩
  refine ⟨_, rfl, _, rfl, p, C, dx, _, _, rfl, hp, T.cl, T.nK, flds_known _ _, d1, _, rfl, DGet.k (k := Sum.inl k) hd1, _, rfl, ?_⟩
  rw [dictOf_val]
  cases e : findG L k with
  | none =>
    refine iteF ?_
    exact hR (fun e' z => by rw [e] at z; cases z) none none
  | some b =>
    refine iteT ?_
    obtain ⟨et, ei, eg⟩ := hE _ (mem_find e)
    refine ⟨_, rfl, p, C, dx, _, _, rfl, hp, T.cl, T.nK, flds_known _ _, _, rfl, d1, .ref b.t, rfl, ?_, b.t, _, rfl, SqT.of et, rfl, _, _, rfl, _, _, rfl, rfl, ?_⟩
    · have z := DGet.k (k := (Sum.inl k : Key)) hd1
      rw [dictOf_val, e] at z
      exact z
    refine ⟨_, rfl, _, rfl, b.i, a, b.inp, inp, rfl, rfl, ei, ha, _, rfl, ?_⟩
    by_cases hb : b.inp = inp
    · rw [decide_eq_true hb]
      refine iteT ?_
      exact ⟨_, rfl, hit b e hb⟩
    · rw [decide_eq_false hb]
      refine iteF ?_
      refine hR (fun e' z => ?_) (some (.ref b.i)) (some b.g)
      rw [e] at z
      cases z
      exact hb
end K39

/-! K39, part e: _law_asked. -/
namespace K39
open PySem PySem.Spec PyProof.Rows L2 LamX NdefX
abbrev nAsked : List Str := ["_law_memo", "_law_key", "_law_inputs", "_law_number", "_law_calls", "_law_reckon"]
abbrev psAsked : List Str := ["_law_memo", "_law_key", "_law_inputs", "_law_number", "_law_calls"]
theorem scA : FnScope nAsked psAsked (defScope sAsked) := ⟨rfl, rfl, rfl, by decide +kernel, rfl, by decide +kernel, by decide +kernel⟩
/-- the name of the nested def's code object -/
def nmA : Nat → Nat → Str := fun _ _ => ("_law_asked" : Str) ++ ".<locals>." ++ "_law_reckon"
def spAsked (C : Addr) (T : List NTab) : Sp := fun vs H Q _ => ∃ (p dx d1 d2 : Addr) (k : Int) (a : Addr) (n : Int) (lc : Addr) (L : List (Int × EntB)) (Fr : List (Key × V)) (inp : Inp) (xs : List V),
  vs = [.ref p, .int k, .ref a, .int n, .ref lc] ∧ TabsN T H ∧ H p = some (.ins C dx (flds d1 d2)) ∧ H d1 = some (.dK (dictOf L)) ∧ H d2 = some (.dK Fr) ∧ H lc = some (.lst xs) ∧ L.length < 1000 ∧ Fr.length < 1000 ∧ xs.length < 1000 ∧
  InpAt H a inp ∧ (∀ q ∈ L, EntAt H q.2) ∧ d1 ≠ d2 ∧
  (∀ (e : EntB) (H' : Hp), findG L k = some e → e.inp = inp → ExtN H H' → TabsN T H' → Q e.g H') ∧
  ((∀ e, findG L k = some e → e.inp ≠ inp) → ∀ (v : V) (t : Addr) (H' : Hp), H t = none → (∀ q, v = .ref q → H q = none) → H' t = some (.tup [.ref a, v]) → GivAt H' v (givOf n) →
    H' d1 = some (.dK (dictOf (putG L k ⟨t, a, v, inp, givOf n⟩))) → H' d2 = some (.dK (putK Fr (Sum.inl k) (.bl true))) → H' lc = some (.lst (xs ++ [.int n])) →
    (∀ b o, H b = some o → (∀ ps, o ≠ .tbl ps) → b ≠ d1 → b ≠ d2 → b ≠ lc → H' b = some o) → TabsN T H' → Q v H')
theorem inp_notbl {H : Hp} {a : Addr} {ps : Array Value} : ∀ {p : Inp}, InpAt H a p → H a = some (.tbl ps) → False
  | .tup i j, h, e => by
    rw [show H a = _ from h] at e
    cases e
  | .lst i j, h, e => by
    rw [show H a = _ from h] at e
    cases e
  | .dct i j, ⟨t, h, _⟩, e => by
    rw [h] at e
    cases e
section
variable {P : Program} {w : World} {K : PySem.W.Frag} {mg : Str → Option Value} {base : Heap}
theorem ok_asked {f C fK fG c5 P5 : Addr} {fdG : FuncData} {oc kV doc pm ct ocK kVK docK pmK cdK ctK : Value} {an od anK odK : Option Addr} {osl oslK : Array (Option Value)}
    (l5 : K.lookup f = some ⟨oc, od, .func (PySem.W.fnOf "_law_asked" "_law_asked" (defArgs sAsked) (defBody sAsked) (defScope sAsked) .none kV doc pm an (.ref c5) ct), osl⟩) (h5 : PySem.W.codeIn K (.ref c5) "_law_asked" = true) (TB : TabB base mg c5 P5)
    (T : Txt K mg C) (mK : Meth K C "ask" fK) (lK : K.lookup fK = some ⟨ocK, odK, .func (PySem.W.fnOf "ask" "Memo.ask" (defArgs sAsk) (defBody sAsk) (defScope sAsk) .none kVK docK pmK anK cdK ctK), oslK⟩) (hK : PySem.W.codeIn K cdK "Memo.ask" = true)
    (FG : Fun K "_law_given_by" "_law_given_by" sGiven fG fdG) (bG : L2.Binds K fdG ["_law_number"] []) (mG : mg "_law_given_by" = some (.ref fG)) :
    FnOk P w K mg base CX0 4 f (PySem.W.fnOf "_law_asked" "_law_asked" (defArgs sAsked) (defBody sAsked) (defScope sAsked) .none kV doc pm an (.ref c5) ct) psAsked (spAsked C [(P5, nmA)]) := by
  have bK : L2.Binds K (PySem.W.fnOf "ask" "Memo.ask" (defArgs sAsk) (defBody sAsk) (defScope sAsk) .none kVK docK pmK anK cdK ctK) psAsk [] := .all fun us hl => match us, hl with | [_, _, _, _], _ => rfl
  refine fn_of l5 h5 scA (fun vs H Q E h => ?_) (fun A outer s H vs Q E hr h => ?_)
  · obtain ⟨p, dx, d1, d2, k, a, n, lc, L, Fr, inp, xs, rfl, _⟩ := h
    rfl
  · obtain ⟨p, dx, d1, d2, k, a, n, lc, L, Fr, inp, xs, rfl, hT, hp, hd1, hd2, hlc, hL, hF, hX, ha, hE, n12, hit, miss⟩ := h
    have hfree := ndef_free (sc := defScope sAsked) (nsc := C8.fnScope sReck) (fr := frR) (by decide +kernel)
    have hfr := ndef_fr (sc := defScope sAsked) (nsc := C8.fnScope sReck) (fr := frR) (by decide +kernel)
    refine ⟨_, PSs.nox (pss_cons (ps_ndefMS (st := sReck) (T := [(P5, nmA)]) (nm := nmA) (c := c5) (P := P5) (name := "_law_reckon") (i := 5) rfl TB rfl (List.mem_singleton.mpr rfl) rfl (fun q hq _ => by rw [List.mem_singleton.mp hq]) hfree rfl rfl rfl scA.nd rfl (Or.inl rfl) (.inl rfl))
      (pss_one (ps_ret (pe_methS (R := rAsk C (NF.of sReck "_law_reckon" ((envOfC "_law_asked" (defScope sAsked) s.heap.objs.size f (.ref c5)).qual ++ "_law_reckon") (cloFrom (envOfC "_law_asked" (defScope sAsked) s.heap.objs.size f (.ref c5)).cells (C8.fnScope sReck).names [])) [4, 3]) (pv 0) T.cl mK lK hK scK bK hr (pa_cons (pv 1) (pa_cons (pv 2) (pa_cons (pv 5) pa_nil)))
        (fun pins σ H s' vs Q I h => ask_reads (mk := (NF.of sReck "_law_reckon" ((envOfC "_law_asked" (defScope sAsked) s.heap.objs.size f (.ref c5)).qual ++ "_law_reckon") (cloFrom (envOfC "_law_asked" (defScope sAsked) s.heap.objs.size f (.ref c5)).cells (C8.fnScope sReck).names []))) (cl := (cloFrom (envOfC "_law_asked" (defScope sAsked) s.heap.objs.size f (.ref c5)).cells (C8.fnScope sReck).names [])) (js := [4, 3]) T I (fun _ => rfl) (fun _ => rfl) (fun ok => Caps.made ok hfree hfr rfl) (fun f c' => ok_reck FG bG mG) h))))), ?_⟩
    refine ⟨hT, fun g c' H1 eN nn T1 g0 g1 gc => ?_⟩
    have x1 : ∀ b o, H b = some o → (∀ ps, o ≠ .tbl ps) → H1 b = some o := eN
    have hp1 := x1 _ _ hp (fun _ z => nomatch z)
    have h11 := x1 _ _ hd1 (fun _ z => nomatch z)
    have h12 := x1 _ _ hd2 (fun _ z => nomatch z)
    have hc1 := x1 _ _ hlc (fun _ z => nomatch z)
    have ha1 : InpAt H1 a inp := ha.keep (fun o e => x1 _ _ e fun ps z => by
      subst z
      exact inp_notbl ha e) fun b xs e => x1 _ _ e (fun _ z => nomatch z)
    have hE1 : ∀ q ∈ L, EntAt H1 q.2 := fun q hq => by
      obtain ⟨e1, e2, e3⟩ := hE q hq
      refine ⟨x1 _ _ e1 (fun _ z => nomatch z), e2.keep (fun o e => x1 _ _ e fun ps z => ?_) (fun b xs e => x1 _ _ e (fun _ z => nomatch z)), e3.keep fun b xs _ e => x1 _ _ e (fun _ z => nomatch z)⟩
      subst z
      exact inp_notbl e2 e
    refine ⟨_, rfl, p, dx, _, rfl, hp1, flds_no _ _ (by decide +kernel) (by decide +kernel), _, rfl, _, rfl, _, rfl, ?_⟩
    refine ⟨p, dx, d1, d2, k, a, g, c', L, Fr, inp, rfl, hp1, h11, h12, hL, hF, ha1, hE1, n12, fun e z1 z2 => hit e H1 z1 z2 eN T1, fun hm => ⟨g1, gc, lc, n, xs, rfl, rfl, hc1, hX, fun v H3 sm nv gv => ?_⟩⟩
    have nlp : p ≠ lc := ne_of hp1 hc1 (fun z => nomatch z)
    have nl1 : d1 ≠ lc := ne_of h11 hc1 (fun z => nomatch z)
    have nl2 : d2 ≠ lc := ne_of h12 hc1 (fun z => nomatch z)
    have g11 := sm d1 _ (by rw [upd_ne nl1]; exact h11)
    have g12 := sm d2 _ (by rw [upd_ne nl2]; exact h12)
    have g1c := sm lc _ upd_same
    refine ⟨sm p _ (by rw [upd_ne nlp]; exact hp1), g11, g12, fun t ht => ?_⟩
    have n1t : d1 ≠ t := ne_of_none g11 ht
    have n2t : d2 ≠ t := ne_of_none g12 ht
    have nct : lc ≠ t := ne_of_none g1c ht
    have ht0 : H t = none := by
      refine nn t ?_
      cases e : H1 t with
      | none => rfl
      | some o =>
        have z := sm t o (by rw [upd_ne nct.symm]; exact e)
        rw [ht] at z
        cases z
    have put1 := dictOf_put L k ⟨t, a, v, inp, givOf n⟩
    have keepAll : ∀ b o, H1 b = some o → b ≠ d1 → b ≠ d2 → b ≠ lc → upd (upd (upd H3 t (.tup [.ref a, v])) d1 (.dK (putK (dictOf L) (Sum.inl k) (.ref t)))) d2 (.dK (putK Fr (Sum.inl k) (.bl true))) b = some o := fun b o e z1 z2 z3 => by
      have e3 := sm b o (by rw [upd_ne z3]; exact e)
      rw [upd_ne z2, upd_ne z1, upd_ne (ne_of_none e3 ht)]
      exact e3
    refine miss hm v t _ ht0 (fun q e => nn q (nv q e)) ?_ ?_ ?_ ?_ ?_ (fun b o e z z1 z2 z3 => keepAll b o (x1 b o e z) z1 z2 z3) ?_
    · rw [upd_ne n2t.symm, upd_ne n1t.symm, upd_same]
    · refine gv.keep fun b ys e hb => ?_
      rw [upd_ne (ne_of hb g12 (fun z => nomatch z)), upd_ne (ne_of hb g11 (fun z => nomatch z)), upd_ne (ne_of_none hb ht)]
      exact hb
    · rw [upd_ne n12, upd_same, put1]
    · rw [upd_same]
    · rw [upd_ne nl2.symm, upd_ne nl1.symm, upd_ne nct]
      exact g1c
    · refine TabsN.keep T1 fun b o e z1 z2 _ => keepAll b o e (fun z => ?_) (fun z => ?_) (fun z => ?_)
      · subst z
        rw [h11] at e
        exact z2 _ (Option.some.inj e).symm
      · subst z
        rw [h12] at e
        exact z2 _ (Option.some.inj e).symm
      · subst z
        rw [hc1] at e
        exact z1 _ (Option.some.inj e).symm
end
end K39

/-! K39, part f: the heap between two turns: who owns which object (a role each), what is kept. -/
namespace K39
open PySem PySem.Spec PyProof.Rows L2 LamX NdefX
abbrev Role := Nat × Int
abbrev Rl := Addr → Role
def setR (ρ : Rl) (a : Addr) (r : Role) : Rl := fun b => if b = a then r else ρ b
theorem setR_same {ρ : Rl} {a : Addr} {r : Role} : setR ρ a r a = r := if_pos rfl
theorem setR_ne {ρ : Rl} {a b : Addr} {r : Role} (h : b ≠ a) : setR ρ a r b = ρ b := if_neg h
/-- what deeds may change -/
def Mu : HO → Prop
  | .lst _ => True
  | .dK _ => True
  | .ins _ _ _ => True
  | _ => False
theorem Mu.notbl {o : HO} (m : Mu o) (ps : Array Value) : o ≠ .tbl ps := fun z => by
  subst z
  exact m
/-- all stays but what has a role of S; tables may grow -/
structure Kp (ρ : Rl) (H : Hp) (ρ' : Rl) (H' : Hp) (S : Role → Prop) : Prop where
  ro : ∀ b o, H b = some o → (∀ ps, o ≠ .tbl ps) → ρ' b = ρ b
  kp : ∀ b o, H b = some o → (∀ ps, o ≠ .tbl ps) → (¬ Mu o ∨ ¬ S (ρ b)) → H' b = some o
  th : ∀ b o, H b = some o → (∀ ps, o ≠ .tbl ps) → ∃ o', H' b = some o' ∧ ∀ ps, o' ≠ .tbl ps
section
variable {ρ ρ1 ρ' : Rl} {H H1 H' : Hp} {S S' : Role → Prop} {a d : Addr} {o : HO}
theorem Kp.tup (k : Kp ρ H ρ' H' S) {xs : List V} (h : H a = some (.tup xs)) : H' a = some (.tup xs) := k.kp a _ h (fun _ z => nomatch z) (.inl fun z => z)
theorem Kp.lst (k : Kp ρ H ρ' H' S) {xs : List V} (h : H a = some (.lst xs)) (n : ¬ S (ρ a)) : H' a = some (.lst xs) := k.kp a _ h (fun _ z => nomatch z) (.inr n)
theorem Kp.dk (k : Kp ρ H ρ' H' S) {xs : List (Key × V)} (h : H a = some (.dK xs)) (n : ¬ S (ρ a)) : H' a = some (.dK xs) := k.kp a _ h (fun _ z => nomatch z) (.inr n)
theorem Kp.ins (k : Kp ρ H ρ' H' S) {C dx : Addr} {fs : List (Str × V)} (h : H a = some (.ins C dx fs)) (n : ¬ S (ρ a)) : H' a = some (.ins C dx fs) := k.kp a _ h (fun _ z => nomatch z) (.inr n)
theorem Kp.of_same (s : Same H H') : Kp ρ H ρ H' (fun _ => False) := ⟨fun _ _ _ _ => rfl, fun b o e _ _ => s b o e, fun b o e n => ⟨o, s b o e, n⟩⟩
theorem Kp.of_ext (s : ExtN H H') : Kp ρ H ρ H' (fun _ => False) := ⟨fun _ _ _ _ => rfl, fun b o e n _ => s b o e n, fun b o e n => ⟨o, s b o e n, n⟩⟩
/-- a new object gets a role -/
theorem Kp.role (k : Kp ρ H ρ' H' S) (n : H a = none) (r : Role) : Kp ρ H (setR ρ' a r) H' S := ⟨fun b o e m => by rw [setR_ne (ne_of_none e n)]; exact k.ro b o e m, k.kp, k.th⟩
theorem Kp.upd (h : H d = some o) (m : Mu o) (o' : HO) (m' : Mu o') : Kp ρ H ρ (L2.upd H d o') (fun r => r = ρ d) := ⟨fun _ _ _ _ => rfl, fun b u e _ z => by
  have hb : b ≠ d := fun q => by
    subst q
    rw [h] at e
    cases e
    rcases z with z | z
    · exact z m
    · exact z rfl
  rw [upd_ne hb]
  exact e, fun b u e n => by
  by_cases hb : b = d
  · subst hb
    exact ⟨o', upd_same, m'.notbl⟩
  · exact ⟨u, by rw [upd_ne hb]; exact e, n⟩⟩
theorem Kp.mono (k : Kp ρ H ρ' H' S) (h : ∀ r, S r → S' r) : Kp ρ H ρ' H' S' := ⟨k.ro, fun b o e n z => k.kp b o e n (z.elim .inl fun q => .inr fun w => q (h _ w)), k.th⟩
theorem Kp.trans {ρ2 : Rl} {H2 : Hp} (k : Kp ρ H ρ1 H1 S) (j : Kp ρ1 H1 ρ2 H2 S') : Kp ρ H ρ2 H2 (fun r => S r ∨ S' r) := by
  refine ⟨fun b o e n => ?_, fun b o e n z => ?_, fun b o e n => ?_⟩
  · obtain ⟨o', e', n'⟩ := k.th b o e n
    rw [j.ro b o' e' n', k.ro b o e n]
  · have e1 := k.kp b o e n (z.elim .inl fun q => .inr fun w => q (.inl w))
    exact j.kp b o e1 n (z.elim .inl fun q => .inr fun w => q (.inr (by rw [← k.ro b o e n]; exact w)))
  · obtain ⟨o', e', n'⟩ := k.th b o e n
    exact j.th b o' e' n'
end

/-! ### a dict of entries, told by what they say -/
abbrev Said := Inp × Giv
def sayE (e : EntB) : Said := (e.inp, e.giv)
structure EntOk (ρ : Rl) (H : Hp) (rr : Nat) (k : Int) (e : EntB) : Prop where
  at_ : EntAt H e
  ri : ρ e.i = (8, 0)
  rg : ∀ b, e.g = .ref b → ρ b = (rr, k)
structure TabL (ρ : Rl) (H : Hp) (d : Addr) (rr : Nat) (A : List (Int × Said)) (L : List (Int × EntB)) : Prop where
  say : mapG sayE L = A
  dk : H d = some (.dK (dictOf L))
  un : Uniq L
  en : ∀ q ∈ L, EntOk ρ H rr q.1 q.2
def Tab (ρ : Rl) (H : Hp) (d : Addr) (rr : Nat) (A : List (Int × Said)) : Prop := ∃ L, TabL ρ H d rr A L
theorem inp_obj {H : Hp} {a : Addr} : ∀ {p : Inp}, InpAt H a p → ∃ o, H a = some o ∧ ∀ ps, o ≠ .tbl ps
  | .tup i j, h => ⟨_, h, fun _ z => nomatch z⟩
  | .lst i j, h => ⟨_, h, fun _ z => nomatch z⟩
  | .dct i j, ⟨t, h, _⟩ => ⟨_, h, fun _ z => nomatch z⟩
theorem giv_obj {H : Hp} {v : V} {b : Addr} (e : v = .ref b) : ∀ {g : Giv}, GivAt H v g → ∃ xs, H b = some (.lst xs)
  | .non, h => by
    rw [show v = V.non from h] at e
    cases e
  | .int n, h => by
    rw [show v = V.int n from h] at e
    cases e
  | .lst ns, ⟨a, h, h2⟩ => by
    rw [h] at e
    cases e
    exact ⟨_, h2⟩
section
variable {ρ ρ' : Rl} {H H' : Hp} {S : Role → Prop} {a d : Addr} {rr : Nat} {k : Int} {A : List (Int × Said)} {L : List (Int × EntB)} {e : EntB}
theorem Kp.inp (kp : Kp ρ H ρ' H' S) {p : Inp} (h : InpAt H a p) (r : ρ a = (8, 0)) (n : ¬ S (8, 0)) : InpAt H' a p ∧ ρ' a = (8, 0) := by
  obtain ⟨o, ho, hn⟩ := inp_obj h
  refine ⟨h.keep (fun o' e => ?_) (fun b xs e => kp.tup e), by rw [kp.ro a o ho hn]; exact r⟩
  rw [ho] at e
  cases e
  exact kp.kp a o ho hn (.inr (by rw [r]; exact n))
theorem Kp.giv (kp : Kp ρ H ρ' H' S) {v : V} {g : Giv} {r : Role} (h : GivAt H v g) (hr : ∀ b, v = .ref b → ρ b = r) (n : ¬ S r) : GivAt H' v g ∧ ∀ b, v = .ref b → ρ' b = r := by
  refine ⟨h.keep fun b xs e hb => kp.lst hb (by rw [hr b e]; exact n), fun b e => ?_⟩
  obtain ⟨xs, hb⟩ := giv_obj e h
  rw [kp.ro b _ hb (fun _ z => nomatch z)]
  exact hr b e
theorem EntOk.keep (x : EntOk ρ H rr k e) (kp : Kp ρ H ρ' H' S) (n8 : ¬ S (8, 0)) (nr : ¬ S (rr, k)) : EntOk ρ' H' rr k e := by
  obtain ⟨⟨e1, e2, e3⟩, r1, r2⟩ := x
  obtain ⟨a1, a2⟩ := kp.inp e2 r1 n8
  obtain ⟨b1, b2⟩ := kp.giv e3 r2 nr
  exact ⟨⟨kp.tup e1, a1, b1⟩, a2, b2⟩
theorem TabL.keep (x : TabL ρ H d rr A L) (kp : Kp ρ H ρ' H' S) (n0 : ¬ S (ρ d)) (n8 : ¬ S (8, 0)) (nr : ∀ k, ¬ S (rr, k)) : TabL ρ' H' d rr A L :=
  ⟨x.say, kp.dk x.dk n0, x.un, fun q hq => (x.en q hq).keep kp n8 (nr _)⟩
/-- a key is kept anew -/
theorem TabL.put (x : TabL ρ H d rr A L) (kp : Kp ρ H ρ' H' S) (n8 : ¬ S (8, 0)) (nr : ∀ k, ¬ S (rr, k)) (hd : H' d = some (.dK (dictOf (putG L k e)))) (he : EntOk ρ' H' rr k e) : TabL ρ' H' d rr (putG A k (sayE e)) (putG L k e) := by
  refine ⟨by rw [put_mapG, x.say], hd, x.un.put k e, fun q hq => ?_⟩
  rcases mem_put hq with z | ⟨z, _⟩
  · rw [z]
    exact he
  · exact (x.en q z).keep kp n8 (nr _)
theorem TabL.drop (x : TabL ρ H d rr A L) (kp : Kp ρ H ρ' H' S) (n8 : ¬ S (8, 0)) (nr : ∀ k, ¬ S (rr, k)) (hd : H' d = some (.dK (dictOf (dropG L k)))) : TabL ρ' H' d rr (dropG A k) (dropG L k) :=
  ⟨by rw [drop_mapG, x.say], hd, x.un.drop k, fun q hq => (x.en q (mem_drop hq)).keep kp n8 (nr _)⟩
/-- what is told of a key is changed -/
theorem TabL.grow {b : Addr} {ms : List Int} {n : Int} (x : TabL ρ H d rr A L) (hf : findG L k = some e) (hg : e.g = .ref b) (hl : H b = some (.lst (ms.map V.int))) (n0 : ρ d ≠ (rr, k)) (n8 : (8 : Nat) ≠ rr) :
    TabL ρ (upd H b (.lst ((ms ++ [n]).map V.int))) d rr (setG A k (e.inp, .lst (ms ++ [n]))) (setG L k { e with giv := .lst (ms ++ [n]) }) := by
  have he := x.en _ (mem_find hf)
  have rb := he.rg b hg
  have kp : Kp ρ H ρ (upd H b (.lst ((ms ++ [n]).map V.int))) (fun r => r = ρ b) := Kp.upd hl True.intro _ True.intro
  rw [rb] at kp
  have n8' : ¬ ((8, 0) : Role) = (rr, k) := fun z => n8 (Prod.mk.inj z).1
  refine ⟨by rw [set_mapG, x.say]; rfl, ?_, x.un.set k _, fun q hq => ?_⟩
  · have e1 : dictOf (setG L k { e with giv := .lst (ms ++ [n]) }) = dictOf L := by
      unfold dictOf setG
      rw [List.map_map]
      refine List.map_congr_left fun p hp => ?_
      show (((Sum.inl (if p.1 = k then (p.1, ({ e with giv := .lst (ms ++ [n]) } : EntB)) else p).1 : Key)), V.ref (if p.1 = k then (p.1, ({ e with giv := .lst (ms ++ [n]) } : EntB)) else p).2.t) = ((Sum.inl p.1 : Key), V.ref p.2.t)
      by_cases h : p.1 = k
      · rw [if_pos h]
        have z : p.2 = e := x.un.find hf (by rw [← h]; exact hp)
        show ((Sum.inl p.1 : Key), V.ref e.t) = _
        rw [z]
      · rw [if_neg h]
    rw [e1]
    exact kp.dk x.dk n0
  · rcases mem_set hq with z | ⟨z, z2⟩
    · rw [z]
      obtain ⟨⟨e1, e2, e3⟩, r1, r2⟩ := he
      refine ⟨⟨kp.tup e1, (kp.inp e2 r1 n8').1, b, hg, upd_same⟩, r1, r2⟩
    · exact (x.en q z).keep kp n8' fun w => z2 (Prod.mk.inj w).2
theorem TabL.find (x : TabL ρ H d rr A L) (k : Int) : findG A k = (findG L k).map sayE := by rw [← x.say, find_mapG]
theorem TabL.len (x : TabL ρ H d rr A L) : L.length = A.length := by rw [← x.say, length_mapG]
end

/-! ### the law's objects in five groups -/
structure GB (C : Addr) (scr : List V) (ρ : Rl) (H : Hp) (y dy b1 b2 sl : Addr) : Prop where
  hy : H y = some (.ins C dy (flds b1 b2))
  h1 : H b1 = some (.dK [])
  h2 : H b2 = some (.dK [])
  hs : H sl = some (.lst scr)
  n12 : b1 ≠ b2
  ry : ρ y = (12, 0)
  r1 : ρ b1 = (2, 0)
  r2 : ρ b2 = (3, 0)
  rs : ρ sl = (13, 0)
structure GM (C : Addr) (ρ : Rl) (H : Hp) (x dx d1 d2 : Addr) (A : List (Int × Said)) (Fr : List (Key × V)) : Prop where
  hx : H x = some (.ins C dx (flds d1 d2))
  t : Tab ρ H d1 9 A
  f : H d2 = some (.dK Fr)
  rx : ρ x = (11, 0)
  r1 : ρ d1 = (0, 0)
  r2 : ρ d2 = (1, 0)
structure GL (ρ : Rl) (H : Hp) (lk lf : Addr) (A : List (Int × Said)) (Fr : List (Key × V)) : Prop where
  t : Tab ρ H lk 10 A
  f : H lf = some (.dK Fr)
  rk : ρ lk = (4, 0)
  rf : ρ lf = (5, 0)
structure GN (r : Nat) (ρ : Rl) (H : Hp) (l : Addr) (ns : List Int) : Prop where
  h : H l = some (.lst (ns.map V.int))
  r : ρ l = (r, 0)
section
variable {C : Addr} {scr : List V} {ρ ρ' : Rl} {H H' : Hp} {S : Role → Prop} {y dy b1 b2 sl x dx d1 d2 lk lf l : Addr} {A : List (Int × Said)} {Fr : List (Key × V)} {ns : List Int}
theorem GB.keep (g : GB C scr ρ H y dy b1 b2 sl) (kp : Kp ρ H ρ' H' S) (n : ∀ r, S r → r.1 = 0 ∨ r.1 = 1 ∨ r.1 = 4 ∨ r.1 = 5 ∨ r.1 = 6 ∨ r.1 = 7 ∨ r.1 = 9 ∨ r.1 = 10 ∨ r.1 = 11) : GB C scr ρ' H' y dy b1 b2 sl := by
  have f : ∀ {r : Role}, (r.1 = 2 ∨ r.1 = 3 ∨ r.1 = 12 ∨ r.1 = 13) → ¬ S r := fun {r} h z => by
    have := n r z
    omega
  refine ⟨kp.ins g.hy (by rw [g.ry]; exact f (by simp)), kp.dk g.h1 (by rw [g.r1]; exact f (by simp)), kp.dk g.h2 (by rw [g.r2]; exact f (by simp)), kp.lst g.hs (by rw [g.rs]; exact f (by simp)), g.n12,
    by rw [kp.ro y _ g.hy (fun _ z => nomatch z)]; exact g.ry, by rw [kp.ro b1 _ g.h1 (fun _ z => nomatch z)]; exact g.r1, by rw [kp.ro b2 _ g.h2 (fun _ z => nomatch z)]; exact g.r2, by rw [kp.ro sl _ g.hs (fun _ z => nomatch z)]; exact g.rs⟩
theorem Tab.keep {d : Addr} {rr : Nat} (x : Tab ρ H d rr A) (kp : Kp ρ H ρ' H' S) (n0 : ¬ S (ρ d)) (n8 : ¬ S (8, 0)) (nr : ∀ k, ¬ S (rr, k)) : Tab ρ' H' d rr A := by
  obtain ⟨L, x⟩ := x
  exact ⟨L, x.keep kp n0 n8 nr⟩
theorem Tab.ro {d : Addr} {rr : Nat} (x : Tab ρ H d rr A) (kp : Kp ρ H ρ' H' S) : ρ' d = ρ d := by
  obtain ⟨L, x⟩ := x
  exact kp.ro d _ x.dk (fun _ z => nomatch z)
theorem GM.keep (g : GM C ρ H x dx d1 d2 A Fr) (kp : Kp ρ H ρ' H' S) (n : ∀ r, S r → r.1 = 4 ∨ r.1 = 5 ∨ r.1 = 6 ∨ r.1 = 7 ∨ r.1 = 10) : GM C ρ' H' x dx d1 d2 A Fr := by
  have f : ∀ {r : Role}, (r.1 = 0 ∨ r.1 = 1 ∨ r.1 = 8 ∨ r.1 = 9 ∨ r.1 = 11) → ¬ S r := fun {r} h z => by
    have := n r z
    omega
  exact ⟨kp.ins g.hx (by rw [g.rx]; exact f (by simp)), g.t.keep kp (by rw [g.r1]; exact f (by simp)) (f (by simp)) (fun _ => f (by simp)), kp.dk g.f (by rw [g.r2]; exact f (by simp)),
    by rw [kp.ro x _ g.hx (fun _ z => nomatch z)]; exact g.rx, by rw [g.t.ro kp]; exact g.r1, by rw [kp.ro d2 _ g.f (fun _ z => nomatch z)]; exact g.r2⟩
theorem GL.keep (g : GL ρ H lk lf A Fr) (kp : Kp ρ H ρ' H' S) (n : ∀ r, S r → r.1 = 0 ∨ r.1 = 1 ∨ r.1 = 6 ∨ r.1 = 7 ∨ r.1 = 9 ∨ r.1 = 11) : GL ρ' H' lk lf A Fr := by
  have f : ∀ {r : Role}, (r.1 = 4 ∨ r.1 = 5 ∨ r.1 = 8 ∨ r.1 = 10) → ¬ S r := fun {r} h z => by
    have := n r z
    omega
  exact ⟨g.t.keep kp (by rw [g.rk]; exact f (by simp)) (f (by simp)) (fun _ => f (by simp)), kp.dk g.f (by rw [g.rf]; exact f (by simp)),
    by rw [g.t.ro kp]; exact g.rk, by rw [kp.ro lf _ g.f (fun _ z => nomatch z)]; exact g.rf⟩
theorem GN.keep {r : Nat} (g : GN r ρ H l ns) (kp : Kp ρ H ρ' H' S) (n : ∀ q, S q → q.1 ≠ r) : GN r ρ' H' l ns :=
  ⟨kp.lst g.h (by rw [g.r]; exact fun z => n _ z rfl), by rw [kp.ro l _ g.h (fun _ z => nomatch z)]; exact g.r⟩
end
end K39

/-! K39, part g: the law. -/
namespace K39
open PySem PySem.Spec PyProof.Rows L2 LamX NdefX

/-! ### between two turns -/
structure LW (C : Addr) (scr : List V) (T : List NTab) (x dx y dy b1 b2 sl lk lc ld : Addr) (i : Nat) (ρ : Rl) (H : Hp) (d1 d2 lf : Addr) (A : List (Int × Said)) (Fr : List (Key × V)) (ns : List Int) : Prop where
  gb : GB C scr ρ H y dy b1 b2 sl
  gm : GM C ρ H x dx d1 d2 A Fr
  gl : GL ρ H lk lf A Fr
  gc : GN 6 ρ H lc ns
  gd : GN 7 ρ H ld ns
  tb : TabsN T H
  a : A.length ≤ i
  f : Fr.length ≤ i
  n : ns.length ≤ i
  ky : ∃ ks : List Int, Fr.map (·.1) = ks.map Sum.inl
  gi : ∀ q ∈ A, ∀ ms, q.2.2 = .lst ms → ms.length ≤ i + 1
section
variable {C : Addr} {scr : List V} {T : List NTab} {x dx y dy b1 b2 sl lk lc ld : Addr} {i : Nat} {ρ ρ' : Rl} {H H' : Hp} {d1 d2 lf : Addr} {A : List (Int × Said)} {Fr : List (Key × V)} {ns : List Int}
theorem LW.kp (w : LW C scr T x dx y dy b1 b2 sl lk lc ld i ρ H d1 d2 lf A Fr ns) (kp : Kp ρ H ρ' H' (fun _ => False)) (tb : TabsN T H') : LW C scr T x dx y dy b1 b2 sl lk lc ld i ρ' H' d1 d2 lf A Fr ns :=
  ⟨w.gb.keep kp (fun _ z => z.elim), w.gm.keep kp (fun _ z => z.elim), w.gl.keep kp (fun _ z => z.elim), w.gc.keep kp (fun _ z => z.elim), w.gd.keep kp (fun _ z => z.elim), tb, w.a, w.f, w.n, w.ky, w.gi⟩
theorem LW.same (w : LW C scr T x dx y dy b1 b2 sl lk lc ld i ρ H d1 d2 lf A Fr ns) (s : Same H H') : LW C scr T x dx y dy b1 b2 sl lk lc ld i ρ H' d1 d2 lf A Fr ns := w.kp (Kp.of_same s) (TabsN.ext w.tb s)
theorem LW.next (w : LW C scr T x dx y dy b1 b2 sl lk lc ld i ρ H d1 d2 lf A Fr ns) : LW C scr T x dx y dy b1 b2 sl lk lc ld (i + 1) ρ H d1 d2 lf A Fr ns :=
  ⟨w.gb, w.gm, w.gl, w.gc, w.gd, w.tb, Nat.le_succ_of_le w.a, Nat.le_succ_of_le w.f, Nat.le_succ_of_le w.n, w.ky, fun q hq ms e => Nat.le_succ_of_le (w.gi q hq ms e)⟩
end
/-! ### the parts of a turn, by their readings -/
abbrev st15 (a : Addr) (tb : Int) (x y lk lf lc ld : Addr) (v8 v9 v10 v11 v12 v13 v14 : Option V) : L2.St := [some (.ref a), some (.int tb), some (.ref x), some (.ref y), some (.ref lk), some (.ref lf), some (.ref lc), some (.ref ld), v8, v9, v10, v11, v12, v13, v14]
abbrev rSrt : List V → Hp → VK → Prop := fun xs H Q => ∃ (a : Addr) (kvs : List (Key × V)) (ks : List Int), xs = [.ref a] ∧ Rd H a (.dK kvs) ∧ kvs.map (·.1) = ks.map Sum.inl ∧ ks.length < 64 ∧ ∀ (ys : List Int) (p : Addr), ys.Perm ks → ys.Pairwise (· ≤ ·) → H p = none → Q (.ref p) (upd H p (.lst (ys.map V.int)))
theorem TabsN.upd {T : List NTab} {H : Hp} {d : Addr} {o : HO} (t : TabsN T H) (h : H d = some o) (m : Mu o) (o' : HO) : TabsN T (L2.upd H d o') := TabsN.keep t fun b u e z1 z2 z3 => by
  have hb : b ≠ d := fun q => by
    subst q
    rw [h] at e
    cases e
    cases o with
    | lst xs => exact z1 _ rfl
    | dK kvs => exact z2 _ rfl
    | ins C dx fs => exact z3 _ _ _ rfl
    | _ => exact m
  rw [upd_ne hb]
  exact e
theorem TabsN.new {T : List NTab} {H : Hp} {p : Addr} (t : TabsN T H) (n : H p = none) (o : HO) : TabsN T (L2.upd H p o) := TabsN.ext t (same_upd n)
section
variable {K : PySem.W.Frag} {C : Addr} {scr : List V} {T : List NTab} {x dx y dy b1 b2 sl lk lc ld : Addr} {i : Nat} {ρ ρ' : Rl} {H H' : Hp} {d1 d2 lf : Addr} {A : List (Int × Said)} {Fr : List (Key × V)} {ns : List Int}
variable {a : Addr} {tb : Int} {v8 v9 v10 v11 v12 v13 v14 : Option V}
theorem way_forget {D : Ends} {key : Int} (w : LW C scr T x dx y dy b1 b2 sl lk lc ld i ρ H d1 d2 lf A Fr ns)
    (h : ∀ ρ' H' A', LW C scr T x dx y dy b1 b2 sl lk lc ld i ρ' H' d1 d2 lf A' Fr ns → D.nx (st15 a tb x y lk lf lc ld v8 v9 v10 (some (.int key)) v12 v13 v14) H') :
    tSeq (tDrop (tMeth C "forget" (spForget C) [] E0 (tVar 2) (tCons (tVar 11) tNil))) (tDrop (tDPop2 (tVar 4) (tVar 11) (tC V.non))) D (st15 a tb x y lk lf lc ld v8 v9 v10 (some (.int key)) v12 v13 v14) H := by
  obtain ⟨LM, tm⟩ := w.gm.t
  obtain ⟨LL, tl⟩ := w.gl.t
  have k1 : Kp ρ H ρ (L2.upd H d1 (.dK (dropK (dictOf LM) (Sum.inl key)))) (fun r => r = (0, 0)) := by
    have z := Kp.upd (ρ := ρ) tm.dk True.intro (.dK (dropK (dictOf LM) (Sum.inl key))) True.intro
    rw [w.gm.r1] at z
    exact z
  have tm1 := tm.drop (k := key) k1 (by simp) (by simp) (by rw [upd_same, dictOf_drop])
  have tl1 := tl.keep k1 (by rw [w.gl.rk]; simp) (by simp) (by simp)
  have k2 : Kp ρ (L2.upd H d1 (.dK (dropK (dictOf LM) (Sum.inl key)))) ρ (L2.upd (L2.upd H d1 (.dK (dropK (dictOf LM) (Sum.inl key)))) lk (.dK (dropK (dictOf LL) (Sum.inl key)))) (fun r => r = (4, 0)) := by
    have z := Kp.upd (ρ := ρ) tl1.dk True.intro (.dK (dropK (dictOf LL) (Sum.inl key))) True.intro
    rw [w.gl.rk] at z
    exact z
  have fin : LW C scr T x dx y dy b1 b2 sl lk lc ld i ρ (L2.upd (L2.upd H d1 (.dK (dropK (dictOf LM) (Sum.inl key)))) lk (.dK (dropK (dictOf LL) (Sum.inl key)))) d1 d2 lf (dropG A key) Fr ns := by
    have k12 := k1.trans k2
    refine ⟨w.gb.keep k12 (fun r z => by rcases z with z | z <;> subst z <;> simp), ⟨k12.ins w.gm.hx (by rw [w.gm.rx]; simp), ⟨_, tm1.keep k2 (by rw [w.gm.r1]; simp) (by simp) (by simp)⟩, k12.dk w.gm.f (by rw [w.gm.r2]; simp), w.gm.rx, w.gm.r1, w.gm.r2⟩,
      ⟨⟨_, tl1.drop (k := key) k2 (by simp) (by simp) (by rw [upd_same, dictOf_drop])⟩, k12.dk w.gl.f (by rw [w.gl.rf]; simp), w.gl.rk, w.gl.rf⟩, w.gc.keep k12 (fun r z => by rcases z with z | z <;> subst z <;> simp), w.gd.keep k12 (fun r z => by rcases z with z | z <;> subst z <;> simp),
      TabsN.upd (TabsN.upd w.tb tm.dk True.intro _) tl1.dk True.intro _, Nat.le_trans (length_drop A key) w.a, w.f, w.n, w.ky, fun q hq => w.gi q (mem_drop hq)⟩
  refine ⟨_, rfl, x, dx, _, rfl, w.gm.hx, flds_no _ _ (by decide +kernel) (by decide +kernel), _, rfl, x, dx, d1, d2, key, _, rfl, w.gm.hx, tm.dk, ?_⟩
  refine ⟨_, rfl, lk, rfl, .inl ⟨_, .inl tl1.dk⟩, _, rfl, _, Sum.inl key, tl1.dk, rfl, fun v _ => h _ _ _ fin, fun hn => ?_⟩
  have e : dropK (dictOf LL) (Sum.inl key : Key) = dictOf LL := dropK_no (valV_not hn)
  rw [e, upd_self tl1.dk] at fin
  exact h _ _ _ fin
theorem news_row {Q : VK} (w : LW C scr T x dx y dy b1 b2 sl lk lc ld i ρ H d1 d2 lf A Fr ns) (hi : i ≤ 63)
    (h : ∀ ρ' H' d', GB C scr ρ' H' y dy b1 b2 sl → GM C ρ' H' x dx d1 d' A [] → GL ρ' H' lk lf A Fr → GN 6 ρ' H' lc ns → GN 7 ρ' H' ld ns → TabsN T H' → Q (.bl true) H') :
    tCall (spRow K) [] E0 (tCons (tMeth C "news" (spNews C) [] E0 (tVar 2) tNil) (tCons (tCB rSrt (tCons (tVar 5) tNil)) tNil)) (st15 a tb x y lk lf lc ld v8 v9 v10 v11 v12 v13 v14) H Q := by
  obtain ⟨ks, hk⟩ := w.ky
  have h64 : ks.length < 64 := by
    have e := congrArg List.length hk
    rw [List.length_map, List.length_map] at e
    have := w.f
    omega
  refine ⟨_, rfl, x, dx, _, rfl, w.gm.hx, flds_no _ _ (by decide +kernel) (by decide +kernel), x, dx, d1, d2, Fr, ks, rfl, w.gm.hx, w.gm.f, hk, h64, fun ys l d H1 p1 o1 nl nd nld gl gd gx kx => ?_⟩
  refine ⟨_, rfl, lf, Fr, ks, rfl, .inl (kx lf _ w.gl.f (ne_of w.gl.f w.gm.hx (fun z => nomatch z))), hk, h64, fun zs l2 p2 o2 nl2 => ?_⟩
  have e : ys = zs := sorted_one (p1.trans p2.symm) o1 o2
  subst e
  refine ⟨l, l2, ys, rfl, (by rw [upd_ne (ne_of_none gl nl2)]; exact gl), upd_same, ?_⟩
  have hx2 : L2.upd H1 l2 (.lst (ys.map V.int)) x = some (.ins C dx (flds d1 d)) := by
    rw [upd_ne (ne_of_none gx nl2)]
    exact gx
  have kp0 : Kp ρ H ρ (L2.upd H1 l2 (.lst (ys.map V.int))) (fun r => r = (11, 0)) := by
    have go : ∀ b o, H b = some o → b ≠ x → L2.upd H1 l2 (.lst (ys.map V.int)) b = some o := fun b o e n => by
      have e1 := kx b o e n
      rw [upd_ne (ne_of_none e1 nl2)]
      exact e1
    refine ⟨fun _ _ _ _ => rfl, fun b o e n z => go b o e fun q => ?_, fun b o e n => ?_⟩
    · subst q
      rw [w.gm.hx] at e
      cases e
      rcases z with z | z
      · exact z True.intro
      · exact z w.gm.rx
    · by_cases q : b = x
      · rw [q]
        exact ⟨_, hx2, fun _ z => nomatch z⟩
      · exact ⟨o, go b o e q, n⟩
  have kp := kp0.role nd (1, 0)
  have hd2 : L2.upd H1 l2 (.lst (ys.map V.int)) d = some (.dK []) := by
    rw [upd_ne (ne_of_none gd nl2)]
    exact gd
  refine h _ _ d (w.gb.keep kp (fun r z => by subst z; simp)) ⟨hx2, w.gm.t.keep kp (by rw [w.gm.r1]; simp) (by simp) (by simp), hd2, ?_, ?_, setR_same⟩ (w.gl.keep kp (fun r z => by subst z; simp)) (w.gc.keep kp (fun r z => by subst z; simp)) (w.gd.keep kp (fun r z => by subst z; simp)) ?_
  · rw [kp.ro x _ w.gm.hx (fun _ z => nomatch z)]
    exact w.gm.rx
  · rw [w.gm.t.ro kp]
    exact w.gm.r1
  · refine TabsN.new (TabsN.keep w.tb fun b o e _ _ z => kx b o e fun q => ?_) nl2 _
    subst q
    rw [w.gm.hx] at e
    exact z _ _ _ (Option.some.inj e).symm
theorem way_news {D : Ends} (w : LW C scr T x dx y dy b1 b2 sl lk lc ld i ρ H d1 d2 lf A Fr ns) (hi : i ≤ 63)
    (h : ∀ ρ' H' d' lf', LW C scr T x dx y dy b1 b2 sl lk lc ld i ρ' H' d1 d' lf' A [] ns → D.nx (st15 a tb x y lk lf' lc ld v8 v9 v10 v11 v12 v13 v14) H') :
    tSeq (tIfS (tNot (tB (tCall (spRow K) [] E0 (tCons (tMeth C "news" (spNews C) [] E0 (tVar 2) tNil) (tCons (tCB rSrt (tCons (tVar 5) tNil)) tNil))))) (tRet (tC (V.bl false))) tNext) (tAsg tDNewK (gName 5)) D (st15 a tb x y lk lf lc ld v8 v9 v10 v11 v12 v13 v14) H := by
  refine news_row w hi fun ρ' H' d' g1 g2 g3 g4 g5 g6 => ⟨true, rfl, iteF ?_⟩
  intro p hp
  have kp : Kp ρ' H' (setR ρ' p (5, 0)) (L2.upd H' p (.dK [])) (fun _ => False) := (Kp.of_same (same_upd hp)).role hp (5, 0)
  have g3' := g3.keep kp (fun _ z => z.elim)
  exact h (setR ρ' p (5, 0)) _ d' p ⟨g1.keep kp (fun _ z => z.elim), g2.keep kp (fun _ z => z.elim), ⟨g3'.t, upd_same, g3'.rk, setR_same⟩, g4.keep kp (fun _ z => z.elim), g5.keep kp (fun _ z => z.elim), TabsN.new g6 hp _, w.a, Nat.zero_le _, w.n, ⟨[], rfl⟩, w.gi⟩
end
end K39

/-! K39, part k: the asking way of a turn. -/
namespace K39
open PySem PySem.Spec PyProof.Rows L2 LamX NdefX
/-- what a value refers to gets a role -/
def roleV (ρ : Rl) (v : V) (r : Role) : Rl := fun b => if v = .ref b then r else ρ b
theorem roleV_same {ρ : Rl} {v : V} {r : Role} {b : Addr} (h : v = .ref b) : roleV ρ v r b = r := if_pos h
theorem roleV_ne {ρ : Rl} {v : V} {r : Role} {b : Addr} (h : v ≠ .ref b) : roleV ρ v r b = ρ b := if_neg h
theorem Kp.roleV {ρ ρ' : Rl} {H H' : Hp} {S : Role → Prop} (k : Kp ρ H ρ' H' S) {v : V} (n : ∀ q, v = .ref q → H q = none) (r : Role) : Kp ρ H (K39.roleV ρ' v r) H' S := ⟨fun b o e m => by
  rw [roleV_ne fun z => by rw [n b z] at e; cases e]
  exact k.ro b o e m, k.kp, k.th⟩
theorem keys_put {Fr : List (Key × V)} {k : Int} {v : V} (h : ∃ ks : List Int, Fr.map (·.1) = ks.map Sum.inl) : ∃ ks : List Int, (putK Fr (Sum.inl k) v).map (·.1) = ks.map Sum.inl := by
  obtain ⟨ks, h⟩ := h
  unfold putK
  split
  · refine ⟨ks, ?_⟩
    rw [← h, List.map_map]
    refine List.map_congr_left fun p _ => ?_
    show (if p.1 = Sum.inl k then (p.1, v) else p).1 = p.1
    split <;> rfl
  · exact ⟨ks ++ [k], by rw [List.map_append, List.map_append, h]; rfl⟩
abbrev rNeX : R2 := fun x y H Q => ∃ a b p q, x = .ref a ∧ y = .ref b ∧ InpAt H a p ∧ InpAt H b q ∧ Q (.bl (!decide (p = q))) H
section
variable {K : PySem.W.Frag} {C : Addr} {scr : List V} {T : List NTab} {x dx y dy b1 b2 sl lk lc ld : Addr} {i : Nat} {ρ ρ' : Rl} {H H' : Hp} {d1 d2 lf : Addr} {A : List (Int × Said)} {Fr : List (Key × V)} {ns : List Int}
variable {a : Addr} {tb : Int} {v8 v9 v10 v11 v12 v13 v14 : Option V}
/-- the law keeps for itself what is to be kept -/
theorem way_store {D : Ends} {key : Int} {a1 : Addr} {inp : Inp} (w : LW C scr T x dx y dy b1 b2 sl lk lc ld i ρ H d1 d2 lf A Fr ns) (hi : i < 63) (ia : InpAt H a1 inp) (ra : ρ a1 = (8, 0))
    (hit : ∀ g, findG A key = some (inp, g) → D.nx (st15 a tb x y lk lf lc ld (some (.int i)) v9 v10 (some (.int key)) v12 (some (.ref a1)) v14) H)
    (miss : (∀ q, findG A key = some q → q.1 ≠ inp) → ∀ ρ' H', GB C scr ρ' H' y dy b1 b2 sl → GM C ρ' H' x dx d1 d2 A Fr → GL ρ' H' lk lf (putG A key (inp, givOf i)) (putK Fr (Sum.inl key) (.bl true)) → GN 6 ρ' H' lc ns → GN 7 ρ' H' ld (ns ++ [(i : Int)]) → TabsN T H' →
      D.nx (st15 a tb x y lk lf lc ld (some (.int i)) v9 v10 (some (.int key)) v12 (some (.ref a1)) v14) H') :
    tIfS (tOr (tB (tDNotIn (tVar 11) (tVar 4))) (tTest (tOp rNeX (tOp (rIxT K) (tDGet (tVar 4) (tVar 11)) (tC (V.int 0))) (tVar 13))))
      (tSeq (sDPut (tVar 4) (tVar 11) (tTup (tCons (tVar 13) (tCons (tCall spGiven [] E0 (tCons (tVar 8) tNil)) tNil)))) (tSeq (sDPut (tVar 5) (tVar 11) (tC (V.bl true))) (tDrop (tBM K "list" rAppend (tVar 7) (tCons (tVar 8) tNil))))) tNext
      D (st15 a tb x y lk lf lc ld (some (.int i)) v9 v10 (some (.int key)) v12 (some (.ref a1)) v14) H := by
  obtain ⟨LL, tl⟩ := w.gl.t
  have store : (∀ q, findG A key = some q → q.1 ≠ inp) → tSeq (sDPut (tVar 4) (tVar 11) (tTup (tCons (tVar 13) (tCons (tCall spGiven [] E0 (tCons (tVar 8) tNil)) tNil)))) (tSeq (sDPut (tVar 5) (tVar 11) (tC (V.bl true))) (tDrop (tBM K "list" rAppend (tVar 7) (tCons (tVar 8) tNil))))
      D (st15 a tb x y lk lf lc ld (some (.int i)) v9 v10 (some (.int key)) v12 (some (.ref a1)) v14) H := fun hm => by
    refine ⟨_, rfl, _, rfl, (i : Int), rfl, fun v H1 sm nv gv => ⟨(by show 2 ≤ sizeLine; decide), fun t ht => ?_⟩⟩
    have nt0 : H t = none := sm.free ht
    -- v and the pair
    have k1 : Kp ρ H (roleV ρ v (10, key)) (L2.upd H1 t (.tup [.ref a1, v])) (fun _ => False) := Kp.roleV (Kp.of_same (sm.trans (same_upd ht))) nv _
    have w1 := w.kp k1 (TabsN.new (TabsN.ext w.tb sm) ht _)
    have tl1 := tl.keep k1 (fun z => z) (fun z => z) (fun _ z => z)
    have ia1 := k1.inp ia ra (fun z => z)
    have gv1 : GivAt (L2.upd H1 t (.tup [.ref a1, v])) v (givOf i) := gv.keep fun b xs _ hb => by
      rw [upd_ne (ne_of_none hb ht)]
      exact hb
    have en1 : EntOk (roleV ρ v (10, key)) (L2.upd H1 t (.tup [.ref a1, v])) 10 key ⟨t, a1, v, inp, givOf i⟩ := ⟨⟨upd_same, ia1.1, gv1⟩, ia1.2, fun b e => roleV_same e⟩
    refine ⟨_, rfl, _, rfl, lk, _, rfl, DPut.k (k := Sum.inl key) tl1.dk (small1000 (by rw [dictOf_len, tl1.len]; have := w.a; omega)), ?_⟩
    rw [dictOf_put LL key ⟨t, a1, v, inp, givOf i⟩]
    have k2 : Kp (roleV ρ v (10, key)) (L2.upd H1 t (.tup [.ref a1, v])) (roleV ρ v (10, key)) (L2.upd (L2.upd H1 t (.tup [.ref a1, v])) lk (.dK (dictOf (putG LL key ⟨t, a1, v, inp, givOf i⟩)))) (fun r => r = (4, 0)) := by
      have z := Kp.upd (ρ := roleV ρ v (10, key)) tl1.dk True.intro (.dK (dictOf (putG LL key ⟨t, a1, v, inp, givOf i⟩))) True.intro
      rw [w1.gl.rk] at z
      exact z
    have tl2 := tl1.put (e := ⟨t, a1, v, inp, givOf i⟩) k2 (by simp) (by simp) upd_same (en1.keep k2 (by simp) (by simp))
    have f2 := k2.dk w1.gl.f (by rw [w1.gl.rf]; simp)
    refine ⟨_, rfl, _, rfl, lf, _, rfl, DPut.k (k := Sum.inl key) f2 (small1000 (by have := w.f; omega)), ?_⟩
    have k3 := Kp.upd (ρ := roleV ρ v (10, key)) f2 True.intro (.dK (putK Fr (Sum.inl key) (.bl true))) True.intro
    rw [w1.gl.rf] at k3
    have d2' := (w1.gd.keep k2 (fun r z => by subst z; simp)).keep k3 (fun r z => by subst z; simp)
    refine ⟨_, rfl, .inl ⟨rfl, _, SqL.of d2'.h⟩, _, rfl, ld, _, _, rfl, rfl, d2'.h, small1000 (by rw [List.length_map]; have := w.n; omega), ?_⟩
    have k4 := Kp.upd (ρ := roleV ρ v (10, key)) d2'.h True.intro (.lst (ns.map V.int ++ [V.int i])) True.intro
    rw [d2'.r] at k4
    have k234 := (k2.trans k3).trans k4
    refine miss hm (roleV ρ v (10, key)) _ (w1.gb.keep k234 (fun r z => by rcases z with (z | z) | z <;> subst z <;> simp)) (w1.gm.keep k234 (fun r z => by rcases z with (z | z) | z <;> subst z <;> simp))
      ⟨⟨_, (tl2.keep k3 (by rw [w1.gl.rk]; simp) (by simp) (by simp)).keep k4 (by rw [w1.gl.rk]; simp) (by simp) (by simp)⟩, k4.dk upd_same (by rw [w1.gl.rf]; simp), w1.gl.rk, w1.gl.rf⟩ (w1.gc.keep k234 (fun r z => by rcases z with (z | z) | z <;> subst z <;> simp)) ⟨?_, d2'.r⟩ ?_
    · rw [upd_same, List.map_append]
      rfl
    · exact TabsN.upd (TabsN.upd (TabsN.upd w1.tb tl1.dk True.intro _) f2 True.intro _) d2'.h True.intro _
  refine ⟨_, rfl, _, rfl, lk, _, rfl, DGet.k (k := Sum.inl key) tl.dk, _, rfl, ?_⟩
  rw [dictOf_val]
  have fA := tl.find key
  cases e : findG LL key with
  | none =>
    refine iteT ?_
    refine iteT ?_
    refine store fun q z => ?_
    rw [fA, e] at z
    cases z
  | some b =>
    refine iteF ?_
    obtain ⟨⟨et, ei, eg⟩, _, _⟩ := tl.en _ (mem_find e)
    refine ⟨_, rfl, _, rfl, lk, .ref b.t, rfl, ?_, b.t, _, _, .ref b.i, rfl, rfl, SqT.of et, at_of (j := 0) rfl rfl, _, rfl, b.i, a1, b.inp, inp, rfl, rfl, ei, ia, _, rfl, ?_⟩
    · have z := DGet.k (k := (Sum.inl key : Key)) tl.dk
      rw [dictOf_val, e] at z
      exact z
    by_cases hb : b.inp = inp
    · rw [decide_eq_true hb]
      refine iteF ?_
      exact hit b.giv (by rw [fA, e, ← hb]; rfl)
    · rw [decide_eq_false hb]
      refine iteT ?_
      refine store fun q z => ?_
      rw [fA, e] at z
      cases z
      exact hb
/-- what the memo told is what it keeps for the key -/
def Found (ρ : Rl) (H : Hp) (d1 : Addr) (A : List (Int × Said)) (key : Int) (v : V) : Prop := ∃ L e, TabL ρ H d1 9 A L ∧ findG L key = some e ∧ e.g = v
abbrev tAskI (C : Addr) (T : List NTab) : TS := tAsg (tCall (spAsked C T) [] E0 (tCons (tVar 2) (tCons (tVar 11) (tCons (tCall spInputs [] E0 (tCons (tOp (rI CDiv fun i j => V.int (i / j)) (tVar 10) (tC (V.int 32))) tNil)) (tCons (tVar 8) (tCons (tVar 6) tNil)))))) (gName 14)
theorem ask_hit {D : Ends} {key mix : Int} {g : Giv} (w : LW C scr T x dx y dy b1 b2 sl lk lc ld i ρ H d1 d2 lf A Fr ns) (hi : i < 63) (hf : findG A key = some (inpOf (mix / 32), g))
    (h : ∀ ρ' H' v, LW C scr T x dx y dy b1 b2 sl lk lc ld i ρ' H' d1 d2 lf A Fr ns → Found ρ' H' d1 A key v → D.nx (st15 a tb x y lk lf lc ld (some (.int i)) v9 (some (.int mix)) (some (.int key)) v12 v13 (some v)) H') :
    tAskI C T D (st15 a tb x y lk lf lc ld (some (.int i)) v9 (some (.int mix)) (some (.int key)) v12 v13 v14) H := by
  refine ⟨_, rfl, _, rfl, _, rfl, _, _, rfl, rfl, ⟨by decide, by decide⟩, _, rfl, fun a2 H2 sm n2 i2 => ⟨_, rfl, _, rfl, ?_⟩⟩
  have k2 : Kp ρ H (setR ρ a2 (8, 0)) H2 (fun _ => False) := (Kp.of_same sm).role n2 (8, 0)
  have w2 := w.kp k2 (TabsN.ext w.tb sm)
  obtain ⟨LM, tm⟩ := w2.gm.t
  have fA := tm.find key
  rw [hf] at fA
  have n12 : d1 ≠ d2 := fun z => by
    have q1 := w2.gm.r1
    rw [z, w2.gm.r2] at q1
    cases q1
  refine ⟨x, dx, d1, d2, key, a2, i, lc, LM, Fr, inpOf (mix / 32), ns.map V.int, rfl, w2.tb, w2.gm.hx, tm.dk, w2.gm.f, w2.gc.h, (by rw [tm.len]; have := w.a; omega), (by have := w.f; omega), (by rw [List.length_map]; have := w.n; omega), i2, fun q hq => (tm.en q hq).at_, n12, fun e H3 e1 e2 xN tN => ?_, fun hm => ?_⟩
  · have k3 : Kp (setR ρ a2 (8, 0)) H2 (setR ρ a2 (8, 0)) H3 (fun _ => False) := Kp.of_ext xN
    exact h _ H3 e.g (w2.kp k3 tN) ⟨LM, e, tm.keep k3 (fun z => z) (fun z => z) (fun _ z => z), e1, rfl⟩
  · cases e : findG LM key with
    | none =>
      rw [e] at fA
      cases fA
    | some b =>
      rw [e] at fA
      have q : b.inp = inpOf (mix / 32) := (Prod.mk.inj (Option.some.inj fA)).1.symm
      exact absurd q (hm b e)
theorem ask_miss {D : Ends} {key mix : Int} {AL : List (Int × Said)} {FL : List (Key × V)} {nd : List Int} (gb : GB C scr ρ H y dy b1 b2 sl) (gm : GM C ρ H x dx d1 d2 A Fr) (gl : GL ρ H lk lf AL FL) (gc : GN 6 ρ H lc ns) (gd : GN 7 ρ H ld nd) (tbs : TabsN T H)
    (hA : A.length < 1000) (hF : Fr.length < 1000) (hN : ns.length < 1000) (hm : ∀ q, findG A key = some q → q.1 ≠ inpOf (mix / 32))
    (h : ∀ ρ' H' v, GB C scr ρ' H' y dy b1 b2 sl → GM C ρ' H' x dx d1 d2 (putG A key (inpOf (mix / 32), givOf i)) (putK Fr (Sum.inl key) (.bl true)) → GL ρ' H' lk lf AL FL → GN 6 ρ' H' lc (ns ++ [(i : Int)]) → GN 7 ρ' H' ld nd → TabsN T H' →
      Found ρ' H' d1 (putG A key (inpOf (mix / 32), givOf i)) key v → D.nx (st15 a tb x y lk lf lc ld (some (.int i)) v9 (some (.int mix)) (some (.int key)) v12 v13 (some v)) H') :
    tAskI C T D (st15 a tb x y lk lf lc ld (some (.int i)) v9 (some (.int mix)) (some (.int key)) v12 v13 v14) H := by
  refine ⟨_, rfl, _, rfl, _, rfl, _, _, rfl, rfl, ⟨by decide, by decide⟩, _, rfl, fun a2 H2 sm n2 i2 => ⟨_, rfl, _, rfl, ?_⟩⟩
  have k2 : Kp ρ H (setR ρ a2 (8, 0)) H2 (fun _ => False) := (Kp.of_same sm).role n2 (8, 0)
  have gb := gb.keep k2 (fun _ z => z.elim)
  have gm := gm.keep k2 (fun _ z => z.elim)
  have gl := gl.keep k2 (fun _ z => z.elim)
  have gc := gc.keep k2 (fun _ z => z.elim)
  have gd := gd.keep k2 (fun _ z => z.elim)
  have tbs : TabsN T H2 := TabsN.ext tbs sm
  obtain ⟨LM, tm⟩ := gm.t
  have fA := tm.find key
  have n12 : d1 ≠ d2 := fun z => by
    have q1 := gm.r1
    rw [z, gm.r2] at q1
    cases q1
  refine ⟨x, dx, d1, d2, key, a2, i, lc, LM, Fr, inpOf (mix / 32), ns.map V.int, rfl, tbs, gm.hx, tm.dk, gm.f, gc.h, (by rw [tm.len]; exact hA), hF, (by rw [List.length_map]; exact hN), i2, fun q hq => (tm.en q hq).at_, n12, fun e H3 e1 e2 xN tN => ?_, fun hm2 v t H3 nt nv ht hv hd1 hd2 hlc kx tN => ?_⟩
  · refine absurd e2 (hm (sayE e) ?_)
    rw [fA, e1]
    rfl
  · have k3a : Kp (setR ρ a2 (8, 0)) H2 (setR ρ a2 (8, 0)) H3 (fun r => r = (0, 0) ∨ r = (1, 0) ∨ r = (6, 0)) := by
      refine ⟨fun _ _ _ _ => rfl, fun b o e n z => ?_, fun b o e n => ?_⟩
      · refine kx b o e n (fun q => ?_) (fun q => ?_) (fun q => ?_)
        · subst q
          rw [tm.dk] at e
          cases e
          exact z.elim (fun q => q True.intro) fun q => q (.inl gm.r1)
        · subst q
          rw [gm.f] at e
          cases e
          exact z.elim (fun q => q True.intro) fun q => q (.inr (.inl gm.r2))
        · subst q
          rw [gc.h] at e
          cases e
          exact z.elim (fun q => q True.intro) fun q => q (.inr (.inr gc.r))
      · by_cases q1 : b = d1
        · rw [q1]
          exact ⟨_, hd1, fun _ z => nomatch z⟩
        by_cases q2 : b = d2
        · rw [q2]
          exact ⟨_, hd2, fun _ z => nomatch z⟩
        by_cases q3 : b = lc
        · rw [q3]
          exact ⟨_, hlc, fun _ z => nomatch z⟩
        exact ⟨o, kx b o e n q1 q2 q3, n⟩
    have k3 := k3a.roleV nv (9, key)
    have ia3 := k3.inp i2 setR_same (by simp)
    have en3 : EntOk (roleV (setR ρ a2 (8, 0)) v (9, key)) H3 9 key ⟨t, a2, v, inpOf (mix / 32), givOf i⟩ := ⟨⟨ht, ia3.1, hv⟩, ia3.2, fun b e => roleV_same e⟩
    have tm3 := tm.put (e := ⟨t, a2, v, inpOf (mix / 32), givOf i⟩) k3 (by simp) (by simp) hd1 en3
    refine h _ H3 v (gb.keep k3 (fun r z => by rcases z with z | z | z <;> subst z <;> simp)) ⟨k3.ins gm.hx (by rw [gm.rx]; simp), ⟨_, tm3⟩, hd2, ?_, ?_, ?_⟩ (gl.keep k3 (fun r z => by rcases z with z | z | z <;> subst z <;> simp)) ⟨by rw [hlc, List.map_append]; rfl, ?_⟩ (gd.keep k3 (fun r z => by rcases z with z | z | z <;> subst z <;> simp)) tN
      ⟨_, _, tm3, find_put LM key _, rfl⟩
    · rw [k3.ro x _ gm.hx (fun _ z => nomatch z)]
      exact gm.rx
    · rw [k3.ro d1 _ tm.dk (fun _ z => nomatch z)]
      exact gm.r1
    · rw [k3.ro d2 _ gm.f (fun _ z => nomatch z)]
      exact gm.r2
    · rw [k3.ro lc _ gc.h (fun _ z => nomatch z)]
      exact gc.r
end
end K39

/-! K39, part n: behind the asking; the law's end. -/
namespace K39
open PySem PySem.Spec PyProof.Rows L2 LamX NdefX
section
variable {K : PySem.W.Frag} {C : Addr} {scr : List V} {T : List NTab} {x dx y dy b1 b2 sl lk lc ld : Addr} {i : Nat} {ρ ρ' : Rl} {H H' : Hp} {d1 d2 lf : Addr} {A : List (Int × Said)} {Fr : List (Key × V)} {ns : List Int}
variable {a : Addr} {tb : Int} {v8 v9 v10 v11 v12 v13 v14 : Option V}
abbrev tKept (K : PySem.W.Frag) : TE := tOp (rIxT K) (tDGet (tVar 4) (tVar 11)) (tC (V.int 1))
theorem way_after {D : Ends} {key : Int} {v : V} (w : LW C scr T x dx y dy b1 b2 sl lk lc ld (i + 1) ρ H d1 d2 lf A Fr ns) (hi : i < 63) (gi : ∀ q ∈ A, ∀ ms, q.2.2 = .lst ms → ms.length ≤ i + 1) (fd : Found ρ H d1 A key v)
    (h : ∀ H' A', LW C scr T x dx y dy b1 b2 sl lk lc ld (i + 1) ρ H' d1 d2 lf A' Fr ns → D.nx (st15 a tb x y lk lf lc ld (some (.int i)) v9 v10 (some (.int key)) v12 v13 (some v)) H') :
    tSeq (tIfS (tOr (tNot (tB (tCall (spSame K) [] E0 (tCons (tVar 14) (tCons (tKept K) tNil))))) (tTest (tOp (rNeD K) (tVar 6) (tVar 7)))) (tRet (tC (V.bl false))) tNext)
      (tIfS (tB (tCB (rIsi K) (tCons (tVar 14) (tCons (tC (V.ty "list")) tNil)))) (tSeq (tDrop (tBM K "list" rAppend (tVar 14) (tCons (tVar 8) tNil))) (tDrop (tBM K "list" rAppend (tKept K) (tCons (tVar 8) tNil)))) tNext)
      D (st15 a tb x y lk lf lc ld (some (.int i)) v9 v10 (some (.int key)) v12 v13 (some v)) H := by
  obtain ⟨LM, e, tm, he, rfl⟩ := fd
  obtain ⟨LL, tl⟩ := w.gl.t
  have fA := tm.find key
  rw [he] at fA
  have fL := tl.find key
  obtain ⟨e2, he2, es⟩ : ∃ e2, findG LL key = some e2 ∧ sayE e2 = sayE e := by
    cases q : findG LL key with
    | none =>
      rw [q, fA] at fL
      cases fL
    | some e2 =>
      rw [q, fA] at fL
      exact ⟨e2, rfl, (Option.some.inj fL).symm⟩
  have ei : e2.inp = e.inp := (Prod.mk.inj es).1
  have eg : e2.giv = e.giv := (Prod.mk.inj es).2
  obtain ⟨⟨p1, p2, p3⟩, q1, q2⟩ := tm.en _ (mem_find he)
  obtain ⟨⟨r1, r2, r3⟩, s1, s2⟩ := tl.en _ (mem_find he2)
  rw [eg] at r3
  have dg : DGet H lk (V.int key) (some (V.ref e2.t)) := by
    have z := DGet.k (k := (Sum.inl key : Key)) tl.dk
    rw [dictOf_val, he2] at z
    exact z
  refine ⟨_, rfl, _, rfl, _, rfl, lk, .ref e2.t, rfl, dg, e2.t, _, _, e2.g, rfl, rfl, SqT.of r1, at_of (j := 1) rfl rfl, e.g, e2.g, e.giv, rfl, p3, r3, true, rfl, iteF ?_⟩
  refine ⟨_, rfl, _, rfl, _, _, dp_ints w.gc.h, dp_ints w.gd.h, PySem.W.shaped_ints ns, PySem.W.shaped_ints ns, _, rfl, ?_⟩
  rw [eqv_same]
  refine iteF ?_
  have w' : LW C scr T x dx y dy b1 b2 sl lk lc ld (i + 1) ρ H d1 d2 lf A Fr ns := w
  cases hg : e.giv with
  | non =>
    rw [hg] at p3
    have ev : e.g = V.non := p3
    rw [ev]
    refine ⟨_, rfl, _, _, _, _, false, rfl, .ty _, .base .non, kit_ty (by decide +kernel), _, rfl, iteF ?_⟩
    rw [← ev]
    exact h H A w
  | int n =>
    rw [hg] at p3
    have ev : e.g = V.int n := p3
    rw [ev]
    refine ⟨_, rfl, _, _, _, _, false, rfl, .ty _, .base (.int n), kit_ty (by decide +kernel), _, rfl, iteF ?_⟩
    rw [← ev]
    exact h H A w
  | lst ms =>
    rw [hg] at p3 r3
    obtain ⟨b, ev, hb⟩ := p3
    obtain ⟨c, ev2, hc⟩ := r3
    have rb := q2 b ev
    have rc := s2 c ev2
    have hms : ms.length ≤ i + 1 := gi (key, sayE e) (mem_find fA) ms hg
    have em : ms.map V.int ++ [V.int (i : Int)] = (ms ++ [(i : Int)]).map V.int := by
      rw [List.map_append]
      rfl
    have hls : (ms.map V.int).length < sizeLine := small1000 (by rw [List.length_map]; omega)
    have k1 := Kp.upd (ρ := ρ) hb True.intro (.lst ((ms ++ [(i : Int)]).map V.int)) True.intro
    rw [rb] at k1
    have tm1 := tm.grow (n := (i : Int)) he ev hb (by rw [w.gm.r1]; simp) (by decide)
    have tl1 := tl.keep k1 (by rw [w.gl.rk]; simp) (by simp) (by simp)
    have hc1 : L2.upd H b (.lst ((ms ++ [(i : Int)]).map V.int)) c = some (.lst (ms.map V.int)) := k1.lst hc (by rw [rc]; simp)
    have k2 := Kp.upd (ρ := ρ) hc1 True.intro (.lst ((ms ++ [(i : Int)]).map V.int)) True.intro
    rw [rc] at k2
    have tl2 := tl1.grow (n := (i : Int)) he2 ev2 hc1 (by rw [w.gl.rk]; simp) (by decide)
    rw [ei] at tl2
    have tm2 := tm1.keep k2 (by rw [w.gm.r1]; simp) (by simp) (by simp)
    have k12 := k1.trans k2
    have dg1 : DGet (L2.upd H b (.lst ((ms ++ [(i : Int)]).map V.int))) lk (V.int key) (some (V.ref e2.t)) := by
      have z := DGet.k (k := (Sum.inl key : Key)) tl1.dk
      rw [dictOf_val, he2] at z
      exact z
    rw [ev]
    refine ⟨_, rfl, _, _, _, _, true, rfl, .ty _, .base (.lst hb), kit_ty (by decide +kernel), _, rfl, iteT ?_⟩
    refine ⟨_, rfl, .inl ⟨rfl, _, SqL.of hb⟩, _, rfl, b, _, _, rfl, rfl, hb, hls, ?_⟩
    rw [em]
    refine ⟨_, rfl, _, rfl, lk, .ref e2.t, rfl, dg1, e2.t, _, _, .ref c, rfl, rfl, SqT.of (k1.tup r1), at_of (j := 1) rfl (by rw [ev2]; rfl), .inl ⟨rfl, _, SqL.of hc1⟩, _, rfl, c, _, _, rfl, rfl, hc1, hls, ?_⟩
    rw [em, ← ev]
    refine h _ (setG A key (e.inp, .lst (ms ++ [(i : Int)]))) ⟨w.gb.keep k12 (fun r z => by rcases z with z | z <;> subst z <;> simp), ⟨k12.ins w.gm.hx (by rw [w.gm.rx]; simp), ⟨_, tm2⟩, k12.dk w.gm.f (by rw [w.gm.r2]; simp), w.gm.rx, w.gm.r1, w.gm.r2⟩,
      ⟨⟨_, tl2⟩, k12.dk w.gl.f (by rw [w.gl.rf]; simp), w.gl.rk, w.gl.rf⟩, w.gc.keep k12 (fun r z => by rcases z with z | z <;> subst z <;> simp), w.gd.keep k12 (fun r z => by rcases z with z | z <;> subst z <;> simp),
      TabsN.upd (TabsN.upd w.tb hb True.intro _) hc1 True.intro _, by rw [length_set]; exact w.a, w.f, w.n, w.ky, fun q hq ms' z => ?_⟩
    rcases mem_set hq with u | ⟨u, _⟩
    · subst u
      have z' : Giv.lst (ms ++ [(i : Int)]) = Giv.lst ms' := z
      cases z'
      rw [List.length_append]
      show ms.length + 1 ≤ _
      omega
    · have := gi q u ms' z
      omega
theorem givOf2 : givOf 2 = .int 2 := by
  unfold givOf
  rw [if_neg (by decide), if_neg (by decide)]
theorem way_end {D : Ends} (w : LW C scr T x dx y dy b1 b2 sl lk lc ld i ρ H d1 d2 lf A Fr ns) (hi : i ≤ 63) (h : ∀ H', D.rt (.bl true) H') :
    tSeq (tIfS (tOr (tNot (tB (tCall (spRow K) [] E0 (tCons (tMeth C "news" (spNews C) [] E0 (tVar 2) tNil) (tCons (tCB rSrt (tCons (tVar 5) tNil)) tNil))))) (tTest (tOp (rNeD K) (tMeth C "news" (spNews C) [] E0 (tVar 2) tNil) (tLst tNil)))) (tRet (tC (V.bl false))) tNext)
      (tSeq (tAsg (tCall (spAsked C T) [] E0 (tCons (tVar 3) (tCons (tC (V.int 0)) (tCons (tTup (tCons (tC (V.int 0)) (tCons (tC (V.str "a")) (tCons (tC (V.int 0)) tNil)))) (tCons (tC (V.int 2)) (tCons (tVar 6) tNil)))))) (gName 14))
        (tRet (tAndV (tCall (spSame K) [] E0 (tCons (tVar 14) (tCons (tC (V.int 2)) tNil))) (tCall (spRow K) [] E0 (tCons (tMeth C "news" (spNews C) [] E0 (tVar 3) tNil) (tCons (tLst (tCons (tC (V.int 0)) tNil)) tNil))))))
      D (st15 a tb x y lk lf lc ld v8 v9 v10 v11 v12 v13 v14) H := by
  refine news_row w hi fun ρ1 H1 d' g1 g2 g3 g4 g5 g6 => ⟨true, rfl, iteF ?_⟩
  refine ⟨_, rfl, x, dx, _, rfl, g2.hx, flds_no _ _ (by decide +kernel) (by decide +kernel), x, dx, d1, d', [], [], rfl, g2.hx, g2.f, rfl, by decide, fun ys l d H2 p1 o1 nl nd nld gl gd gx kx => ?_⟩
  have e : ys = [] := List.perm_nil.mp p1
  subst e
  refine ⟨(by show 0 ≤ sizeLine; decide), fun l2 nl2 => ?_⟩
  have hl0 : ∀ {H : Hp} {a : Addr}, H a = some (.lst ([] : List V)) → Dp K H (.ref a) (.list ([].map PyData.int)) := fun h => dp_ints (ns := []) h
  refine ⟨_, _, hl0 (by rw [upd_ne (ne_of_none gl nl2)]; exact gl), hl0 upd_same, PySem.W.shaped_ints [], PySem.W.shaped_ints [], _, rfl, ?_⟩
  rw [eqv_same]
  refine iteF ?_
  -- the memo beside
  have nyx : y ≠ x := fun z => by
    have q := g1.ry
    rw [z, g2.rx] at q
    cases q
  have kk : ∀ b o, H1 b = some o → b ≠ x → L2.upd H2 l2 (.lst []) b = some o := fun b o e n => by
    have e1 := kx b o e n
    rw [upd_ne (ne_of_none e1 nl2)]
    exact e1
  have hy := kk y _ g1.hy nyx
  have h1 := kk b1 _ g1.h1 (ne_of g1.h1 g2.hx (fun z => nomatch z))
  have h2 := kk b2 _ g1.h2 (ne_of g1.h2 g2.hx (fun z => nomatch z))
  have hc := kk lc _ g4.h (ne_of g4.h g2.hx (fun z => nomatch z))
  have tb2 : TabsN T (L2.upd H2 l2 (.lst [])) := TabsN.keep g6 fun b o e _ _ z => kk b o e fun q => by
    subst q
    rw [g2.hx] at e
    exact z _ _ _ (Option.some.inj e).symm
  refine ⟨_, rfl, ⟨(by show 3 ≤ sizeLine; decide), fun t nt => ⟨_, rfl, ?_⟩⟩⟩
  have ux : ∀ {b : Addr} {o : HO}, L2.upd H2 l2 (.lst []) b = some o → L2.upd (L2.upd H2 l2 (.lst [])) t (.tup [.int 0, .str "a", .int 0]) b = some o := fun {b o} e => same_upd nt b o e
  refine ⟨y, dy, b1, b2, 0, t, 2, lc, [], [], .tup 0 0, ns.map V.int, rfl, TabsN.new tb2 nt _, ux hy, ux h1, ux h2, ux hc, (by decide), (by decide), (by rw [List.length_map]; have := w.n; omega), upd_same, (fun q hq => nomatch hq), g1.n12, (fun e H3 e1 => nomatch e1), fun _ v t2 H3 _ nv ht hv hd1 hd2 hlc k3 tN => ?_⟩
  rw [givOf2] at hv
  have ev : v = V.int 2 := hv
  subst ev
  have hy3 := k3 y _ (ux hy) (fun _ z => nomatch z) (ne_of hy h1 (fun z => nomatch z)) (ne_of hy h2 (fun z => nomatch z)) (ne_of hy hc (fun z => nomatch z))
  refine ⟨_, rfl, .int 2, .int 2, .int 2, rfl, rfl, rfl, true, rfl, iteT ?_⟩
  refine ⟨_, rfl, y, dy, _, rfl, hy3, flds_no _ _ (by decide +kernel) (by decide +kernel), y, dy, b1, b2, _, [0], rfl, hy3, hd2, rfl, by decide, fun zs l3 d3 H4 p3 o3 nl3 nd3 nld3 gl3 gd3 gx3 kx3 => ?_⟩
  have e : zs = [0] := List.perm_singleton.mp p3
  subst e
  refine ⟨(by show 1 ≤ sizeLine; decide), fun l4 nl4 => ?_⟩
  exact ⟨l3, l4, [0], rfl, (by rw [upd_ne (ne_of_none gl3 nl4)]; exact gl3), upd_same, h _⟩
end
end K39

/-! K39, part l: the law. -/
namespace K39
open PySem PySem.Spec PyProof.Rows L2 LamX NdefX
abbrev nLaw : List Str := ["_law_script", "_law_times_by", "_law_memo", "_law_beside", "_law_known", "_law_fresh", "_law_calls", "_law_due", "_law_number", "_law_cell", "_law_mix", "_law_key", "_law_way", "_law_inputs", "_law_found"]
theorem scL : FnScope nLaw ["_law_script"] (defScope sLaw) := ⟨rfl, rfl, rfl, by decide +kernel, rfl, by decide +kernel, by decide +kernel⟩
def spLaw (K : PySem.W.Frag) (T : List NTab) : Sp := fun vs H Q _ => ∃ (a : Addr) (ns : List Int), vs = [.ref a] ∧ SqL K H a (ns.map V.int) ∧ ns.length ≤ 63 ∧ TabsN T H ∧ ∀ H', Q (.bl true) H'
theorem cut_all {xs : List V} (h : xs.length ≤ 63) : cutV xs none (some 120) = xs := by
  unfold cutV
  simp [HT.sIx]
  exact List.take_of_length_le (by omega)
theorem Kp.tr0 {ρ ρ1 ρ2 : Rl} {H H1 H2 : Hp} (k : Kp ρ H ρ1 H1 (fun _ => False)) (j : Kp ρ1 H1 ρ2 H2 (fun _ => False)) : Kp ρ H ρ2 H2 (fun _ => False) := (k.trans j).mono fun _ z => z.elim id id
theorem tab_nil {ρ : Rl} {H : Hp} {d : Addr} {rr : Nat} (h : H d = some (.dK [])) : Tab ρ H d rr [] := ⟨[], rfl, h, (fun _ hp => nomatch hp), fun _ hq => nomatch hq⟩
theorem giv_one {n : Int} {ms : List Int} (h : givOf n = .lst ms) : ms.length = 1 := by
  unfold givOf at h
  split at h
  · cases h
  · split at h
    · cases h
      rfl
    · cases h
section
variable {P : Program} {w : World} {K : PySem.W.Frag} {mg : Str → Option Value} {base : Heap}
theorem ok_law {f C fI fF fN fP fG fA fS fR : Addr} {fd fdI fdF fdN fdP fdG fdA fdS fdR : FuncData} {T5 : List NTab} (F : Fun K "law" "law" sLaw f fd) (T : Txt K mg C) (M : Mk K C fI)
    (FI : Fun K "__init__" "Memo.__init__" sInit fI fdI) (bI : L2.Binds K fdI ["self"] [])
    (FF : Fun K "forget" "Memo.forget" sForget fF fdF) (bF : L2.Binds K fdF ["self", "key"] []) (mF : Meth K C "forget" fF)
    (FN : Fun K "news" "Memo.news" sNews fN fdN) (bN : L2.Binds K fdN ["self"] []) (mN : Meth K C "news" fN)
    (FP : Fun K "_law_inputs_by" "_law_inputs_by" sInputs fP fdP) (bP : L2.Binds K fdP ["_law_cell"] []) (mP : mg "_law_inputs_by" = some (.ref fP))
    (FG : Fun K "_law_given_by" "_law_given_by" sGiven fG fdG) (bG : L2.Binds K fdG ["_law_number"] []) (mG : mg "_law_given_by" = some (.ref fG))
    (FS : Fun K "_law_same" "_law_same" sSame fS fdS) (bS : L2.Binds K fdS ["_law_one", "_law_other"] []) (mS : mg "_law_same" = some (.ref fS))
    (FR : Fun K "_law_whole_row" "_law_whole_row" sRow fR fdR) (bR : L2.Binds K fdR ["_law_row", "_law_due"] []) (mR : mg "_law_whole_row" = some (.ref fR))
    (GA : FnOk P w K mg base CX0 4 fA fdA psAsked (spAsked C T5)) (bA : L2.Binds K fdA psAsked []) (kA : PySem.W.keepIn K (.ref fA) = true) (mA : mg "_law_asked" = some (.ref fA)) :
    FnOk P w K mg base CX0 5 f fd ["_law_script"] (spLaw K T5) := by
  have GI : FnOk P w K mg base CX0 1 fI fdI ["self"] (spInit C) := ok_init FI T
  have GF : FnOk P w K mg base CX0 1 fF fdF ["self", "key"] (spForget C) := ok_forget FF T
  have GN : FnOk P w K mg base CX0 1 fN fdN ["self"] (spNews C) := ok_news FN T
  have GP : FnOk P w K mg base CX0 1 fP fdP ["_law_cell"] spInputs := ok_inputs FP
  have GG : FnOk P w K mg base CX0 1 fG fdG ["_law_number"] spGiven := ok_given FG
  have GS : FnOk P w K mg base CX0 1 fS fdS ["_law_one", "_law_other"] (spSame K) := ok_same FS T
  have GR : FnOk P w K mg base CX0 1 fR fdR ["_law_row", "_law_due"] (spRow K) := ok_row FR T
  refine F.ok scL (fun vs H Q E h => ?_) (fun cdv A outer s H vs Q E hr h => ?_)
  · obtain ⟨a, ns, rfl, _⟩ := h
    rfl
  · obtain ⟨a, ns, rfl, hS, hlen, hT, k⟩ := h
    have hr1 : Room 1 _ := hr.mono (by decide)
    have hr2 : Room 2 _ := hr.mono (by decide)
    have hu := hu_of hr
    have hu2 : (A.deeper (envOfC "law" (defScope sLaw) s.heap.objs.size f cdv)).units + 66 < cLine := by
      have := hr.un
      omega
    refine ⟨_, pss_cons (ps_set (i := 1) scL.nd rfl (Or.inl rfl) pe_int)
      (C8.pss_cut (ps_if (PW.pt (pw_and (pt_cmpR op_gt (pe_callB call_len (by rfl) T.len PySem.boot_len (pa_cons (pv 0) pa_nil)) pe_int (nomark _)) (pw_and1 (pt_cmpR op_eq (pe_op op_mod (pe_ix ix_list (pv 0) pe_int (fun _ _ => rfl)) pe_int) pe_int (nomark _)))))
        (pss_one (ps_set (i := 1) scL.nd rfl (Or.inl rfl) (pe_op op_add pe_int (pe_op op_mod (pe_op op_fdiv (pe_ix ix_list (pv 0) pe_int (fun _ _ => rfl)) pe_int) (pe_op op_pow pe_int pe_int))))) pss_nil)
      (pss_cons (ps_set (i := 2) scL.nd rfl (Or.inl rfl) (pe_make0 M GI hr2 rfl T.mgC bI .nil pass0))
      (pss_cons (ps_set (i := 3) scL.nd rfl (Or.inl rfl) (pe_make0 M GI hr2 rfl T.mgC bI .nil pass0))
      (pss_cons (ps_set (i := 4) scL.nd rfl (Or.inl rfl) pe_dnewK)
      (pss_cons (ps_set (i := 5) scL.nd rfl (Or.inl rfl) pe_dnewK)
      (pss_cons (ps_set (i := 6) scL.nd rfl (Or.inl rfl) (pe_lst pa_nil))
      (pss_cons (ps_set (i := 7) scL.nd rfl (Or.inl rfl) (pe_lst pa_nil))
      (pss_cons (ps_for PassesOwn.never rfl (pi_enum (by rfl) T.enum (pa_cons (pe_slice sl_list (pv 0) po_none (po_some pe_int)) pa_nil)) (pg_tup rfl (pgs_cons (pg_name (i := 8) scL.nd rfl (Or.inl rfl)) (pgs_cons (pg_name (i := 9) scL.nd rfl (Or.inl rfl)) pgs_nil)))
        (pss_cons (ps_set (i := 10) scL.nd rfl (Or.inl rfl) (pe_op op_mod (pe_op op_mul (pv 9) pe_int) pe_int))
        (pss_cons (ps_set (i := 11) scL.nd rfl (Or.inl rfl) (pe_op op_mul (pe_op op_mod (pv 10) pe_int) (pv 1)))
        (pss_cons (ps_set (i := 12) scL.nd rfl (Or.inl rfl) (pe_op op_mod (pe_op op_fdiv (pv 10) pe_int) pe_int))
        (pss_cons (ps_set (i := 13) scL.nd rfl (Or.inl rfl) (pe_call GP hr1 (by rfl) mP FP.kp bP .nil pass0 (pa_cons (pe_op op_fdiv (pv 10) pe_int) pa_nil)))
        (pss_one (ps_if (pt_cmpR op_eq (pv 12) pe_int (nomark _))
          (pss_cons (ps_expr (pe_meth (pv 2) T.cl mF GF hr1 bF .nil pass0 (pa_cons (pv 11) pa_nil)))
          (pss_one (ps_expr (pe_dpop2 (pv 4) (pv 11) pe_non ⟨rfl, rfl, rfl, rfl⟩))))
          (pss_one (ps_if (pt_cmpR op_eq (pv 12) pe_int (nomark _))
            (pss_cons (ps_if (pt_not (pt_val (pe_call GR hr1 (by rfl) mR FR.kp bR .nil pass0 (pa_cons (pe_meth0 (pv 2) T.cl mN GN hr1 bN .nil pass0) (pa_cons (pe_callB (call_sortedDI rfl) (by rfl) T.sorted PyProof.Rows.boot_sorted (pa_cons (pv 5) pa_nil)) pa_nil))))) (pss_one (ps_ret pe_bl)) pss_nil)
            (pss_one (ps_set (i := 5) scL.nd rfl (Or.inl rfl) pe_dnewK)))
            (C8.pss_cut (ps_if (PW.pt (pw_or (pt_cmp (pc_dnotin hu (pv 11) (pv 4))) (pw_or1 (pt_cmpR (op_neX hu2) (pe_ix ix_tup (pe_dget hu (pv 4) (pv 11) (fun _ _ => rfl)) pe_int (fun _ _ => rfl)) (pv 13) (nomark _)))))
              (pss_cons (ps_dput hu (pv 4) (pv 11) (pe_tup (pa_cons (pv 13) (pa_cons (pe_call GG hr1 (by rfl) mG FG.kp bG .nil pass0 (pa_cons (pv 8) pa_nil)) pa_nil))) rfl)
              (pss_cons (ps_dput hu (pv 5) (pv 11) pe_bl rfl)
              (pss_one (ps_expr (pe_bm PySem.F.plainAttrs_list PySem.F.slot_list_append PySem.F.type_list_append mt_append (pv 7) (pa_cons (pv 8) pa_nil)))))) pss_nil)
            (C8.pss_cut (ps_set (i := 14) scL.nd rfl (Or.inl rfl) (pe_call GA hr (by rfl) mA kA bA .nil pass0 (pa_cons (pv 2) (pa_cons (pv 11) (pa_cons (pe_call GP hr1 (by rfl) mP FP.kp bP .nil pass0 (pa_cons (pe_op op_fdiv (pv 10) pe_int) pa_nil)) (pa_cons (pv 8) (pa_cons (pv 6) pa_nil)))))))
            (pss_cons (ps_if (PW.pt (pw_or (pt_not (pt_val (pe_call GS hr1 (by rfl) mS FS.kp bS .nil pass0 (pa_cons (pv 14) (pa_cons (pe_ix ix_tup (pe_dget hu (pv 4) (pv 11) (fun _ _ => rfl)) pe_int (fun _ _ => rfl)) pa_nil))))) (pw_or1 (pt_cmpR (op_neD hr.units) (pv 6) (pv 7) (nomark _))))) (pss_one (ps_ret pe_bl)) pss_nil)
            (pss_one (ps_if (pt_val (pe_callB call_isi (by rfl) T.isi PyProof.Rows.boot_isinstance (pa_cons (pv 14) (pa_cons (pe_bltn (v := .ty "list") (by rfl) T.list PyProof.Rows.boot_list rfl) pa_nil))))
              (pss_cons (ps_expr (pe_bm PySem.F.plainAttrs_list PySem.F.slot_list_append PySem.F.type_list_append mt_append (pv 14) (pa_cons (pv 8) pa_nil)))
              (pss_one (ps_expr (pe_bm PySem.F.plainAttrs_list PySem.F.slot_list_append PySem.F.type_list_append mt_append (pe_ix ix_tup (pe_dget hu (pv 4) (pv 11) (fun _ _ => rfl)) pe_int (fun _ _ => rfl)) (pa_cons (pv 8) pa_nil))))) pss_nil))))))))))))))
      (pss_cons (ps_if (PW.pt (pw_or (pt_not (pt_val (pe_call GR hr1 (by rfl) mR FR.kp bR .nil pass0 (pa_cons (pe_meth0 (pv 2) T.cl mN GN hr1 bN .nil pass0) (pa_cons (pe_callB (call_sortedDI rfl) (by rfl) T.sorted PyProof.Rows.boot_sorted (pa_cons (pv 5) pa_nil)) pa_nil)))))
        (pw_or1 (pt_cmpR (op_neD hr.units) (pe_meth0 (pv 2) T.cl mN GN hr1 bN .nil pass0) (pe_lst pa_nil) (nomark _))))) (pss_one (ps_ret pe_bl)) pss_nil)
      (pss_cons (ps_set (i := 14) scL.nd rfl (Or.inl rfl) (pe_call GA hr (by rfl) mA kA bA .nil pass0 (pa_cons (pv 3) (pa_cons pe_int (pa_cons (pe_tup (pa_cons pe_int (pa_cons pe_str (pa_cons pe_int pa_nil)))) (pa_cons pe_int (pa_cons (pv 6) pa_nil)))))))
      (pss_one (ps_ret (pe_and (pe_call GS hr1 (by rfl) mS FS.kp bS .nil pass0 (pa_cons (pv 14) (pa_cons pe_int pa_nil)))
        (pe_one (pe_call GR hr1 (by rfl) mR FR.kp bR .nil pass0 (pa_cons (pe_meth0 (pv 3) T.cl mN GN hr1 bN .nil pass0) (pa_cons (pe_lst (pa_cons pe_int pa_nil)) pa_nil))))))))))))))))), ?_⟩
    -- the times
    refine ⟨fun σ' H' => H' = H ∧ ∃ tb : Int, σ' = [some (.ref a), some (.int tb), none, none, none, none, none, none, none, none, none, none, none, none, none], ?_, ?_⟩
    · refine ⟨_, rfl, _, (ns.map V.int).length, rfl, Or.inl ⟨_, hS, rfl⟩, _, _, rfl, rfl, _, rfl, ?_⟩
      cases ns with
      | nil =>
        refine iteF ?_
        refine iteF ?_
        exact ⟨rfl, 1, rfl⟩
      | cons z r =>
        refine ite2 (fun _ => ?_) (fun hn => ?_)
        · have at0 : atI ((z :: r).map V.int) 0 = some (.int z) := at_of (j := 0) rfl rfl
          refine ⟨_, rfl, a, _, _, _, rfl, rfl, hS, at0, _, _, rfl, rfl, (by show (0 : Int) < 4; decide), rfl, _, rfl, ?_⟩
          refine ite2 (fun _ => ?_) (fun _ => ?_)
          · refine ⟨_, rfl, a, _, _, _, rfl, rfl, hS, at0, _, _, rfl, rfl, ⟨by decide, by decide⟩, _, _, rfl, rfl, ⟨by decide, by decide, by decide⟩, _, _, rfl, rfl, (by show (0 : Int) < 10 ^ 29; decide), _, _, rfl, rfl, ?_⟩
            exact ⟨rfl, _, rfl⟩
          · exact ⟨rfl, 1, rfl⟩
        · refine iteF ?_
          exact ⟨rfl, 1, rfl⟩
    rintro σ0 H0 ⟨rfl, tb, rfl⟩
    -- the memos
    intro x dx nx ndx nex
    refine ⟨x, dx, rfl, upd_same, fun d1 d2 H1 fd1 fd2 n12 gx g1 g2 kp1 => ⟨rfl, ?_⟩⟩
    have s1 : Same H0 H1 := Same.made nx ndx kp1
    have e1 := (show Same H0 (upd (upd H0 dx (.own x)) x (.ins C dx [])) from fun b o e => by rw [upd_ne (ne_of_none e nx), upd_ne (ne_of_none e ndx)]; exact e)
    intro y dy ny ndy ney
    refine ⟨y, dy, rfl, upd_same, fun b1 b2 H2 fb1 fb2 m12 gy h1 h2 kp2 => ⟨rfl, ?_⟩⟩
    have s2 : Same H1 H2 := Same.made ny ndy kp2
    have e2 := (show Same H1 (upd (upd H1 dy (.own y)) y (.ins C dy [])) from fun b o e => by rw [upd_ne (ne_of_none e ny), upd_ne (ne_of_none e ndy)]; exact e)
    have nb1 := e2.free fb1
    have nb2 := e2.free fb2
    intro lk nlk
    intro lf nlf
    refine ⟨(by show 0 ≤ sizeLine; decide), fun lc nlc => ?_⟩
    refine ⟨(by show 0 ≤ sizeLine; decide), fun ld nld => ?_⟩
    -- the roles
    have xd1 : d1 ≠ x := ne_of g1 gx (fun z => nomatch z)
    have xd2 : d2 ≠ x := ne_of g2 gx (fun z => nomatch z)
    have yb1 : b1 ≠ y := ne_of h1 gy (fun z => nomatch z)
    have yb2 : b2 ≠ y := ne_of h2 gy (fun z => nomatch z)
    obtain ⟨ρ1, gm1⟩ : ∃ ρ1, GM C ρ1 H1 x dx d1 d2 [] [] :=
      ⟨setR (setR (setR (fun _ => (99, 0)) d2 (1, 0)) d1 (0, 0)) x (11, 0), gx, tab_nil g1, g2, setR_same, by rw [setR_ne xd1]; exact setR_same, by rw [setR_ne xd2, setR_ne n12.symm]; exact setR_same⟩
    have q2 : Kp ρ1 H1 (setR (setR (setR ρ1 b2 (3, 0)) b1 (2, 0)) y (12, 0)) H2 (fun _ => False) := (((Kp.of_same s2).role nb2 (3, 0)).role nb1 (2, 0)).role ny (12, 0)
    obtain ⟨ρ2, q2, ry, rb1, rb2⟩ : ∃ ρ2, Kp ρ1 H1 ρ2 H2 (fun _ => False) ∧ ρ2 y = (12, 0) ∧ ρ2 b1 = (2, 0) ∧ ρ2 b2 = (3, 0) :=
      ⟨_, q2, setR_same, by rw [setR_ne yb1]; exact setR_same, by rw [setR_ne yb2, setR_ne m12.symm]; exact setR_same⟩
    refine ⟨_, rfl, _, rfl, a, ns.map V.int, rfl, ?_, fun sl nsl => ?_⟩
    · exact Same.seq (same_upd nld) (Same.seq (same_upd nlc) (Same.seq (same_upd nlf) (Same.seq (same_upd nlk) (s2.seq (s1.seq hS)))))
    have q3 : Kp ρ2 H2 (setR ρ2 lk (4, 0)) _ (fun _ => False) := (Kp.of_same (same_upd (o := .dK []) nlk)).role nlk (4, 0)
    have q4 : Kp (setR ρ2 lk (4, 0)) _ (setR (setR ρ2 lk (4, 0)) lf (5, 0)) _ (fun _ => False) := (Kp.of_same (same_upd (o := .dK []) nlf)).role nlf (5, 0)
    have q5 : Kp (setR (setR ρ2 lk (4, 0)) lf (5, 0)) _ (setR (setR (setR ρ2 lk (4, 0)) lf (5, 0)) lc (6, 0)) _ (fun _ => False) := (Kp.of_same (same_upd (o := .lst []) nlc)).role nlc (6, 0)
    have q6 : Kp (setR (setR (setR ρ2 lk (4, 0)) lf (5, 0)) lc (6, 0)) _ (setR (setR (setR (setR ρ2 lk (4, 0)) lf (5, 0)) lc (6, 0)) ld (7, 0)) _ (fun _ => False) := (Kp.of_same (same_upd (o := .lst []) nld)).role nld (7, 0)
    have q7 : Kp (setR (setR (setR (setR ρ2 lk (4, 0)) lf (5, 0)) lc (6, 0)) ld (7, 0)) _ (setR (setR (setR (setR (setR ρ2 lk (4, 0)) lf (5, 0)) lc (6, 0)) ld (7, 0)) sl (13, 0)) _ (fun _ => False) := (Kp.of_same (same_upd (o := .lst (cutV (ns.map V.int) none (some 120))) nsl)).role nsl (13, 0)
    have hl : (ns.map V.int).length ≤ 63 := by rw [List.length_map]; exact hlen
    rw [cut_all hl] at q7 ⊢
    have gm7 := ((((((gm1.keep q2 (fun _ z => z.elim)).keep q3 (fun _ z => z.elim)).keep q4 (fun _ z => z.elim)).keep q5 (fun _ z => z.elim)).keep q6 (fun _ z => z.elim)).keep q7 (fun _ z => z.elim))
    have q27 := (((q3.tr0 q4).tr0 q5).tr0 q6).tr0 q7
    have gb7 : GB C (ns.map V.int) _ _ y dy b1 b2 sl := ⟨q27.ins gy (fun z => z), q27.dk h1 (fun z => z), q27.dk h2 (fun z => z), upd_same, m12, by rw [q27.ro y _ gy (fun _ z => nomatch z)]; exact ry, by rw [q27.ro b1 _ h1 (fun _ z => nomatch z)]; exact rb1, by rw [q27.ro b2 _ h2 (fun _ z => nomatch z)]; exact rb2, setR_same⟩
    have tk : Tab (setR ρ2 lk (4, 0)) (upd H2 lk (.dK [])) lk 10 [] := tab_nil upd_same
    have q47 := ((q4.tr0 q5).tr0 q6).tr0 q7
    have q57 := (q5.tr0 q6).tr0 q7
    have gl7 : GL _ _ lk lf [] [] := ⟨tk.keep q47 (fun z => z) (fun z => z) (fun _ z => z), q57.dk upd_same (fun z => z), by rw [tk.ro q47]; exact setR_same, by rw [q57.ro lf _ upd_same (fun _ z => nomatch z)]; exact setR_same⟩
    have gc7 : K39.GN 6 _ _ lc [] := (⟨upd_same, setR_same⟩ : K39.GN 6 _ _ lc []).keep (q6.tr0 q7) (fun _ z => z.elim)
    have gd7 : K39.GN 7 _ _ ld [] := (⟨upd_same, setR_same⟩ : K39.GN 7 _ _ ld []).keep q7 (fun _ z => z.elim)
    have tb7 : TabsN T5 _ := TabsN.new (TabsN.new (TabsN.new (TabsN.new (TabsN.new (TabsN.ext (TabsN.ext hT s1) s2) nlk (.dK [])) nlf (.dK [])) nlc (.lst [])) nld (.lst [])) nsl (.lst (ns.map V.int))
    have w7 := LW.mk (i := 0) gb7 gm7 gl7 gc7 gd7 tb7 (Nat.le_refl 0) (Nat.le_refl 0) (Nat.le_refl 0) ⟨[], rfl⟩ (fun q hq => nomatch hq)
    refine ⟨sl, ns.map V.int, rfl, SqL.of upd_same, for_it (walk_enum (K := K) (a := sl) (xs := ns.map V.int)) (fun i σ H => ∃ (ρ : Rl) (d1 d2 lf : Addr) (A : List (Int × Said)) (Fr : List (Key × V)) (cs : List Int) (v8 v9 v10 v11 v12 v13 v14 : Option V),
      σ = st15 a tb x y lk lf lc ld v8 v9 v10 v11 v12 v13 v14 ∧ LW C (ns.map V.int) T5 x dx y dy b1 b2 sl lk lc ld i ρ H d1 d2 lf A Fr cs) ⟨_, d1, d2, lf, [], [], [], none, none, none, none, none, none, none, rfl, w7⟩
      (fun i σ H _ ⟨_, _, _, _, _, _, _, _, _, _, _, _, _, _, _, w⟩ => SqL.of w.gb.hs) ?_ ?_⟩
    · rintro i xv σ H H' hi ⟨ρ, d1, d2, lf, A, Fr, cs, v8, v9, v10, v11, v12, v13, v14, rfl, w⟩ ⟨Tp, x1, y1, rfl, nT, rfl, ex, ey⟩
      have hi63 : i < 63 := Nat.lt_of_lt_of_le hi hl
      obtain rfl : V.int (i : Int) = x1 := Option.some.inj ex
      have ey : (ns.map V.int)[i]? = some y1 := ey
      obtain ⟨z, rfl⟩ : ∃ z, y1 = V.int z := by
        rw [List.getElem?_map] at ey
        cases e : ns[i]? with
        | none =>
          rw [e] at ey
          cases ey
        | some z =>
          rw [e] at ey
          exact ⟨z, (Option.some.inj ey).symm⟩
      have w1 := w.same (same_upd (o := .tup [.int (i : Int), .int z]) nT)
      refine ⟨Tp, _, rfl, SqT.of upd_same, rfl, _, _, rfl, _, _, rfl, rfl, ?_⟩
      -- mix, key, way
      refine ⟨_, rfl, _, _, rfl, rfl, .inr ⟨by decide, by decide⟩, _, _, rfl, rfl, (by show (0 : Int) < 2147483647; decide), ?_⟩
      refine ⟨_, rfl, _, _, rfl, rfl, (by show (0 : Int) < 4; decide), _, rfl, _, _, rfl, rfl, .inl ⟨by omega, by omega⟩, ?_⟩
      refine ⟨_, rfl, _, _, rfl, rfl, ⟨by decide, by decide⟩, _, _, rfl, rfl, (by show (0 : Int) < 8; decide), ?_⟩
      -- inputs
      refine ⟨_, rfl, _, _, rfl, rfl, ⟨by decide, by decide⟩, _, rfl, fun a1 H3 sm n1 i1 => ?_⟩
      have w3 := w1.kp ((Kp.of_same sm).role n1 (8, 0)) (TabsN.ext w1.tb sm)
      refine ⟨_, rfl, rfl, _, rfl, ite2 (fun _ => ?_) (fun _ => ?_)⟩
      · refine way_forget w3 fun ρ' H' A' w' => ?_
        exact ⟨ρ', d1, d2, lf, A', Fr, cs, _, _, _, _, _, _, _, rfl, w'.next⟩
      refine ⟨_, rfl, rfl, _, rfl, ite2 (fun _ => ?_) (fun _ => ?_)⟩
      · refine way_news w3 (Nat.le_of_lt hi63) fun ρ' H' d' lf' w' => ?_
        exact ⟨ρ', d1, d', lf', A, [], cs, _, _, _, _, _, _, _, rfl, w'.next⟩
      -- the asking
      refine ⟨fun σ' H' => σ' = st15 a tb x y lk lf lc ld (some (.int i)) (some (.int z)) (some (.int (z * 48271 % 2147483647))) (some (.int ((z * 48271 % 2147483647) % 4 * tb))) (some (.int ((z * 48271 % 2147483647) / 4 % 8))) (some (.ref a1)) v14 ∧ ((∃ g, H' = H3 ∧ findG A ((z * 48271 % 2147483647) % 4 * tb) = some (inpOf ((z * 48271 % 2147483647) / 32), g)) ∨
        ((∀ q, findG A ((z * 48271 % 2147483647) % 4 * tb) = some q → q.1 ≠ inpOf ((z * 48271 % 2147483647) / 32)) ∧ ∃ ρ', GB C (ns.map V.int) ρ' H' y dy b1 b2 sl ∧ GM C ρ' H' x dx d1 d2 A Fr ∧ GL ρ' H' lk lf (putG A ((z * 48271 % 2147483647) % 4 * tb) (inpOf ((z * 48271 % 2147483647) / 32), givOf i)) (putK Fr (Sum.inl ((z * 48271 % 2147483647) % 4 * tb)) (.bl true)) ∧ K39.GN 6 ρ' H' lc cs ∧
          K39.GN 7 ρ' H' ld (cs ++ [(i : Int)]) ∧ TabsN T5 H')), ?_, ?_⟩
      · refine way_store w3 hi63 i1 setR_same (fun g hg => ⟨rfl, .inl ⟨g, rfl, hg⟩⟩) fun hm ρ' H' g1 g2 g3 g4 g5 g6 => ⟨rfl, .inr ⟨hm, ρ', g1, g2, g3, g4, g5, g6⟩⟩
      rintro σ' H' ⟨rfl, hh⟩
      refine ⟨fun σ'' H'' => ∃ (v : V) (ρ' : Rl) (A' : List (Int × Said)) (Fr' : List (Key × V)) (cs' : List Int), σ'' = st15 a tb x y lk lf lc ld (some (.int i)) (some (.int z)) (some (.int (z * 48271 % 2147483647))) (some (.int ((z * 48271 % 2147483647) % 4 * tb))) (some (.int ((z * 48271 % 2147483647) / 4 % 8))) (some (.ref a1)) (some v) ∧
        LW C (ns.map V.int) T5 x dx y dy b1 b2 sl lk lc ld (i + 1) ρ' H'' d1 d2 lf A' Fr' cs' ∧ (∀ q ∈ A', ∀ ms, q.2.2 = .lst ms → ms.length ≤ i + 1) ∧ Found ρ' H'' d1 A' ((z * 48271 % 2147483647) % 4 * tb) v, ?_, ?_⟩
      · rcases hh with ⟨g, rfl, hg⟩ | ⟨hm, ρ', g1, g2, g3, g4, g5, g6⟩
        · refine ask_hit w3 hi63 hg fun ρ' H' v w' fd => ?_
          exact ⟨v, ρ', A, Fr, cs, rfl, w'.next, w'.gi, fd⟩
        · have wa := w3.a
          have wf := w3.f
          have wn := w3.n
          have gi' : ∀ q ∈ putG A ((z * 48271 % 2147483647) % 4 * tb) (inpOf ((z * 48271 % 2147483647) / 32), givOf i), ∀ ms, q.2.2 = .lst ms → ms.length ≤ i + 1 := fun q hq ms e => by
            rcases mem_put hq with u | ⟨u, _⟩
            · subst u
              rw [giv_one e]
              omega
            · exact w3.gi q u ms e
          refine ask_miss g1 g2 g3 g4 g5 g6 (by omega) (by omega) (by omega) hm fun ρ'' H'' v k1 k2 k3 k4 k5 k6 fd => ?_
          refine ⟨v, ρ'', _, _, _, rfl, ⟨k1, k2, k3, k4, k5, k6, ?_, ?_, ?_, keys_put w3.ky, fun q hq ms e => Nat.le_succ_of_le (gi' q hq ms e)⟩, gi', fd⟩
          · have := length_put A ((z * 48271 % 2147483647) % 4 * tb) ((inpOf ((z * 48271 % 2147483647) / 32), givOf i) : Said)
            omega
          · have := length_putK Fr (Sum.inl ((z * 48271 % 2147483647) % 4 * tb) : Key) (V.bl true)
            omega
          · rw [List.length_append]
            show cs.length + 1 ≤ _
            omega
      rintro σ'' H'' ⟨v, ρ', A', Fr', cs', rfl, w', gi', fd⟩
      refine way_after w' hi63 gi' fd fun H4 A4 w4 => ?_
      exact ⟨ρ', d1, d2, lf, A4, Fr', cs', _, _, _, _, _, _, _, rfl, w4⟩
    · rintro σ H ⟨ρ, d1, d2, lf, A, Fr, cs, v8, v9, v10, v11, v12, v13, v14, rfl, w⟩
      exact way_end w hl k
end
end K39

/-! K39, part z: what the top has written; the end. -/
namespace K39
open PySem PySem.Spec PyProof.Rows L2 LamX NdefX
theorem all_mk {l : PySem.W.OpenLaw} {w : World} {K : PySem.W.Frag} {h : Heap} {mg : Str → Option Value} {fa C f1 f2 f3 f4 g1 g2 g3 g4 g5 g6 c5 P5 : Addr} (X : K.In h) (G : h.Ns mainGlobals mg) (hfa : mg "law" = some (.ref fa))
    {od1 an1 od2 an2 od3 an3 od4 an4 pd1 bn1 pd2 bn2 pd3 bn3 pd4 bn4 pd5 bn5 pd6 bn6 : Option Addr} {sl1 sl2 sl3 sl4 tl1 tl2 tl3 tl4 tl5 tl6 : Array (Option Value)}
    {oc1 kV1 dc1 pm1 cd1 ct1 oc2 kV2 dc2 pm2 cd2 ct2 oc3 kV3 dc3 pm3 cd3 ct3 oc4 kV4 dc4 pm4 cd4 ct4 : Value}
    {pc1 jV1 ec1 qm1 dd1 dt1 pc2 jV2 ec2 qm2 dd2 dt2 pc3 jV3 ec3 qm3 dt3 pc4 jV4 ec4 qm4 dd4 dt4 pc5 jV5 ec5 qm5 dd5 dt5 pc6 jV6 ec6 qm6 dd6 dt6 : Value}
    (aC : PySem.W.nsIn K mainGlobals "Memo" = some (some (.ref C)))
    (a1 : PySem.W.findIn K (.ref C) "__init__" = some (some (.ref f1))) (i1 : PySem.W.isFn K (.ref f1) = true) (l1 : K.lookup f1 = some ⟨oc1, od1, .func (PySem.W.fnOf "__init__" "Memo.__init__" (defArgs sInit) (defBody sInit) (defScope sInit) .none kV1 dc1 pm1 an1 cd1 ct1), sl1⟩) (c1 : PySem.W.codeIn K cd1 "Memo.__init__" = true) (k1 : PySem.W.keepIn K (.ref f1) = true)
    (a2 : PySem.W.findIn K (.ref C) "ask" = some (some (.ref f2))) (i2 : PySem.W.isFn K (.ref f2) = true) (l2 : K.lookup f2 = some ⟨oc2, od2, .func (PySem.W.fnOf "ask" "Memo.ask" (defArgs sAsk) (defBody sAsk) (defScope sAsk) .none kV2 dc2 pm2 an2 cd2 ct2), sl2⟩) (c2 : PySem.W.codeIn K cd2 "Memo.ask" = true) (k2 : PySem.W.keepIn K (.ref f2) = true)
    (a3 : PySem.W.findIn K (.ref C) "forget" = some (some (.ref f3))) (i3 : PySem.W.isFn K (.ref f3) = true) (l3 : K.lookup f3 = some ⟨oc3, od3, .func (PySem.W.fnOf "forget" "Memo.forget" (defArgs sForget) (defBody sForget) (defScope sForget) .none kV3 dc3 pm3 an3 cd3 ct3), sl3⟩) (c3 : PySem.W.codeIn K cd3 "Memo.forget" = true) (k3 : PySem.W.keepIn K (.ref f3) = true)
    (a4 : PySem.W.findIn K (.ref C) "news" = some (some (.ref f4))) (i4 : PySem.W.isFn K (.ref f4) = true) (l4 : K.lookup f4 = some ⟨oc4, od4, .func (PySem.W.fnOf "news" "Memo.news" (defArgs sNews) (defBody sNews) (defScope sNews) .none kV4 dc4 pm4 an4 cd4 ct4), sl4⟩) (c4 : PySem.W.codeIn K cd4 "Memo.news" = true) (k4 : PySem.W.keepIn K (.ref f4) = true)
    (b1 : PySem.W.nsIn K mainGlobals "_law_inputs_by" = some (some (.ref g1))) (m1 : K.lookup g1 = some ⟨pc1, pd1, .func (PySem.W.fnOf "_law_inputs_by" "_law_inputs_by" (defArgs sInputs) (defBody sInputs) (defScope sInputs) .none jV1 ec1 qm1 bn1 dd1 dt1), tl1⟩) (e1 : PySem.W.codeIn K dd1 "_law_inputs_by" = true) (n1 : PySem.W.keepIn K (.ref g1) = true)
    (b2 : PySem.W.nsIn K mainGlobals "_law_given_by" = some (some (.ref g2))) (m2 : K.lookup g2 = some ⟨pc2, pd2, .func (PySem.W.fnOf "_law_given_by" "_law_given_by" (defArgs sGiven) (defBody sGiven) (defScope sGiven) .none jV2 ec2 qm2 bn2 dd2 dt2), tl2⟩) (e2 : PySem.W.codeIn K dd2 "_law_given_by" = true) (n2 : PySem.W.keepIn K (.ref g2) = true)
    (b3 : PySem.W.nsIn K mainGlobals "_law_asked" = some (some (.ref g3))) (m3 : K.lookup g3 = some ⟨pc3, pd3, .func (PySem.W.fnOf "_law_asked" "_law_asked" (defArgs sAsked) (defBody sAsked) (defScope sAsked) .none jV3 ec3 qm3 bn3 (.ref c5) dt3), tl3⟩) (e3 : PySem.W.codeIn K (.ref c5) "_law_asked" = true) (n3 : PySem.W.keepIn K (.ref g3) = true)
    (b4 : PySem.W.nsIn K mainGlobals "_law_same" = some (some (.ref g4))) (m4 : K.lookup g4 = some ⟨pc4, pd4, .func (PySem.W.fnOf "_law_same" "_law_same" (defArgs sSame) (defBody sSame) (defScope sSame) .none jV4 ec4 qm4 bn4 dd4 dt4), tl4⟩) (e4 : PySem.W.codeIn K dd4 "_law_same" = true) (n4 : PySem.W.keepIn K (.ref g4) = true)
    (b5 : PySem.W.nsIn K mainGlobals "_law_whole_row" = some (some (.ref g5))) (m5 : K.lookup g5 = some ⟨pc5, pd5, .func (PySem.W.fnOf "_law_whole_row" "_law_whole_row" (defArgs sRow) (defBody sRow) (defScope sRow) .none jV5 ec5 qm5 bn5 dd5 dt5), tl5⟩) (e5 : PySem.W.codeIn K dd5 "_law_whole_row" = true) (n5 : PySem.W.keepIn K (.ref g5) = true)
    (b6 : PySem.W.nsIn K mainGlobals "law" = some (some (.ref g6))) (m6 : K.lookup g6 = some ⟨pc6, pd6, .func (PySem.W.fnOf "law" "law" (defArgs sLaw) (defBody sLaw) (defScope sLaw) .none jV6 ec6 qm6 bn6 dd6 dt6), tl6⟩) (e6 : PySem.W.codeIn K dd6 "law" = true) (n6 : PySem.W.keepIn K (.ref g6) = true)
    (pg : PySem.W.plainGet K C Str.empty = true) (hd : PySem.W.hasDictIn K C = true) (po : PySem.W.plainOver K C = true) (sa : PySem.W.findIn K (.ref C) "__setattr__" = some (some (.builtin "object.__setattr__"))) (mk : PySem.W.makesIn K C = true) (kc : PySem.W.keepIn K (.ref C) = true)
    (nK : PySem.W.findIn K (.ref C) "known" = some none) (nF : PySem.W.findIn K (.ref C) "fresh" = some none)
    (z1 : PySem.W.nsIn K mainGlobals "len" = some none) (z2 : PySem.W.nsIn K mainGlobals "sorted" = some none) (z3 : PySem.W.nsIn K mainGlobals "enumerate" = some none) (z4 : PySem.W.nsIn K mainGlobals "isinstance" = some none) (z5 : PySem.W.nsIn K mainGlobals "list" = some none) (z6 : PySem.W.nsIn K mainGlobals "int" = some none) (z7 : PySem.W.nsIn K mainGlobals "bool" = some none)
    (t5 : PySem.W.tabIn K "_law_asked" = some (c5, P5)) (nt : K.lookup P5 = none) :
    ∃ (c5 P5 : Addr) (fd : FuncData), PySem.W.tabIn K "_law_asked" = some (c5, P5) ∧ K.lookup P5 = none ∧ (∀ (s : Shared) (v : Value), BindsTo s fd ⟨[v], []⟩ [("_law_script", v)]) ∧ ∀ base : Heap, K.In base → base.Ns mainGlobals mg → TabB base mg c5 P5 → FnOk l.prog w K mg base CX0 5 fa fd ["_law_script"] (spLaw K [(P5, nmA)]) := by
  have e := hfa.symm.trans (PySem.W.mg_of X G b6)
  cases e
  have T : Txt K mg C := ⟨⟨pg, hd, po, sa⟩, nK, nF, PySem.W.mg_of X G aC, PySem.W.mg_none_of X G z1, PySem.W.mg_none_of X G z2, PySem.W.mg_none_of X G z3, PySem.W.mg_none_of X G z4, PySem.W.mg_none_of X G z5, PySem.W.mg_none_of X G z6, PySem.W.mg_none_of X G z7⟩
  have F1 := fun_mk (st := sInit) l1 c1 k1
  have F3 := fun_mk (st := sForget) l3 c3 k3
  have F4 := fun_mk (st := sNews) l4 c4 k4
  have G1 := fun_mk (st := sInputs) m1 e1 n1
  have G2 := fun_mk (st := sGiven) m2 e2 n2
  have G4 := fun_mk (st := sSame) m4 e4 n4
  have G5 := fun_mk (st := sRow) m5 e5 n5
  have G6 := fun_mk (st := sLaw) m6 e6 n6
  have p1 := F1.binds (ps := ["self"]) fun _ _ _ _ _ _ us hl => match us, hl with | [_], _ => rfl
  have p3 := F3.binds (ps := ["self", "key"]) fun _ _ _ _ _ _ us hl => match us, hl with | [_, _], _ => rfl
  have p4 := F4.binds (ps := ["self"]) fun _ _ _ _ _ _ us hl => match us, hl with | [_], _ => rfl
  have q1 := G1.binds (ps := ["_law_cell"]) fun _ _ _ _ _ _ us hl => match us, hl with | [_], _ => rfl
  have q2 := G2.binds (ps := ["_law_number"]) fun _ _ _ _ _ _ us hl => match us, hl with | [_], _ => rfl
  have q4 := G4.binds (ps := ["_law_one", "_law_other"]) fun _ _ _ _ _ _ us hl => match us, hl with | [_, _], _ => rfl
  have q5 := G5.binds (ps := ["_law_row", "_law_due"]) fun _ _ _ _ _ _ us hl => match us, hl with | [_, _], _ => rfl
  have q3 : L2.Binds K (PySem.W.fnOf "_law_asked" "_law_asked" (defArgs sAsked) (defBody sAsked) (defScope sAsked) .none jV3 ec3 qm3 bn3 (.ref c5) dt3) psAsked [] := .all fun us hl => match us, hl with | [_, _, _, _, _], _ => rfl
  refine ⟨c5, P5, PySem.W.fnOf "law" "law" (defArgs sLaw) (defBody sLaw) (defScope sLaw) .none jV6 ec6 qm6 bn6 dd6 dt6, t5, nt, fun s v => .of_eq rfl, fun base _ _ TB => ?_⟩
  have GA := ok_asked (P := l.prog) (w := w) (mg := mg) (base := base) m3 e3 TB T ⟨a2, i2, k2⟩ l2 c2 G2 q2 (PySem.W.mg_of X G b2)
  exact ok_law G6 T ⟨mk, a1, i1, kc⟩ F1 p1 F3 p3 ⟨a3, i3, k3⟩ F4 p4 ⟨a4, i4, k4⟩ G1 q1 (PySem.W.mg_of X G b1) G2 q2 (PySem.W.mg_of X G b2) G4 q4 (PySem.W.mg_of X G b4) G5 q5 (PySem.W.mg_of X G b5) GA q3 n3 (PySem.W.mg_of X G b3)
theorem walk {l : PySem.W.OpenLaw} {q : Program} {loose : List Str} {XP : (Str → Option Value) → Heap → Prop} {YP : World → Heap → Prop} {d : DefRec} {K : Params → PySem.W.Frag} (hn : l.most = some 63) (hdf : d.params.defaults = []) (hrec : ((recsOf q).any fun e => e.name == ("_law_asked" : Str)) = true)
    (hY : ∀ (w : World) (h : Heap), YP w h → (K w.params).In h)
    (F : ∀ (w : World) (mg : Str → Option Value) (fa : Addr) (h : Heap), (K w.params).In h → h.Ns mainGlobals mg → mg d.name = some (.ref fa) →
      ∃ (c5 P5 : Addr) (fd : FuncData), PySem.W.tabIn (K w.params) "_law_asked" = some (c5, P5) ∧ (K w.params).lookup P5 = none ∧ (∀ (s : Shared) (u : Value), BindsTo s fd ⟨[u], []⟩ [("_law_script", u)]) ∧
        ∀ base : Heap, (K w.params).In base → base.Ns mainGlobals mg → TabB base mg c5 P5 → FnOk l.prog w (K w.params) mg base CX0 5 fa fd ["_law_script"] (spLaw (K w.params) [(P5, nmA)])) :
    PySem.W.WalkO q loose XP YP l.row.toRowW d [] (fun f vs => PySem.call f vs) := by
  refine Att.attach_callB hn hdf fun w s₀ s₁ mg mb fa o pm cd doc a vs ns G Y ho hd hcd hmg hobj hints hlen hbits hg => ?_
  have KX := hY w _ Y
  obtain ⟨c5, P5, fd, ht, hn5, hb, hF⟩ := F w mg fa _ KX G.T.g hmg
  obtain ⟨d5, hd5⟩ := Option.isSome_iff_exists.mp (List.find?_isSome.mpr (List.any_eq_true.mp hrec))
  obtain ⟨hC, hP⟩ := PySem.W.tab_of G.T KX hd5 ht
  have one : ∀ {p : Addr × Addr}, p ∈ [(c5, P5)] → p = (c5, P5) := fun hp => List.mem_singleton.mp hp
  exact law_callTs (cs := [(c5, P5)]) (sp := spLaw (K w.params) [(P5, nmA)]) (CX := CX0) (k := 5) KX G.T.g G.T.b G.T.builtins G.T.nolimit hg (fun p hp => by rw [one hp]; exact hP) (fun p hp => by rw [one hp]; exact hn5) (fun p hp => by rw [one hp]; exact hC) G.T.bmain hobj hints (Nat.le_trans hlen (by decide))
    ⟨rfl, by decide, by decide⟩ (fun base k1 k2 k3 => hF base k1 k2 (k3 _ (List.mem_singleton.mpr rfl))) hb
    (fun H hH hS => ⟨a, ns, rfl, hS, hlen, fun p hp => by rw [List.mem_singleton.mp hp]; exact TabN.nil (hH _ (List.mem_singleton.mpr rfl)), fun _ => rfl⟩) fun H e s' z => z
end K39
open PySem PySem.W PyProof.Rows
set_option maxRecDepth 100000 in
set_option maxHeartbeats 0 in
theorem PySem.Challenge.cw_stylehouse_k39_memo_holds : PySem.Challenge.rw_stylehouse_k39_memo.Holds := by
  w_on; o_law; k_head; (case hw => w_witness2)
  k_fill
  refine K39.walk (l := PySem.Challenge.rw_stylehouse_k39_memo) rfl rfl ?hrec (fun w h Y => PySem.W.km_in_of Y) ?F
  case hrec => decide +kernel
  case F =>
    intro w mg fa h KX G hmg
    refine' K39.all_mk KX G hmg ?aC ?a1 ?i1 ?l1 ?c1 ?k1 ?a2 ?i2 ?l2 ?c2 ?k2 ?a3 ?i3 ?l3 ?c3 ?k3 ?a4 ?i4 ?l4 ?c4 ?k4 ?b1 ?m1 ?e1 ?n1 ?b2 ?m2 ?e2 ?n2 ?b3 ?m3 ?e3 ?n3 ?b4 ?m4 ?e4 ?n4 ?b5 ?m5 ?e5 ?n5 ?b6 ?m6 ?e6 ?n6 ?pg ?hd ?po ?sa ?mk ?kc ?nK ?nF ?z1 ?z2 ?z3 ?z4 ?z5 ?z6 ?z7 ?t5 ?nt
    (case aC => k_is)
    (case a1 => k_is)
    (case i1 => k_is)
    (case l1 => k_is)
    (case c1 => k_is)
    (case k1 => k_is)
    (case a2 => k_is)
    (case i2 => k_is)
    (case l2 => k_is)
    (case c2 => k_is)
    (case k2 => k_is)
    (case a3 => k_is)
    (case i3 => k_is)
    (case l3 => k_is)
    (case c3 => k_is)
    (case k3 => k_is)
    (case a4 => k_is)
    (case i4 => k_is)
    (case l4 => k_is)
    (case c4 => k_is)
    (case k4 => k_is)
    (case b1 => k_is)
    (case m1 => k_is)
    (case e1 => k_is)
    (case n1 => k_is)
    (case b2 => k_is)
    (case m2 => k_is)
    (case e2 => k_is)
    (case n2 => k_is)
    (case b3 => k_is)
    (case m3 => k_is)
    (case e3 => k_is)
    (case n3 => k_is)
    (case b4 => k_is)
    (case m4 => k_is)
    (case e4 => k_is)
    (case n4 => k_is)
    (case b5 => k_is)
    (case m5 => k_is)
    (case e5 => k_is)
    (case n5 => k_is)
    (case b6 => k_is)
    (case m6 => k_is)
    (case e6 => k_is)
    (case n6 => k_is)
    (case pg => k_is)
    (case hd => k_is)
    (case po => k_is)
    (case sa => k_is)
    (case mk => k_is)
    (case kc => k_is)
    (case nK => k_is)
    (case nF => k_is)
    (case z1 => k_is)
    (case z2 => k_is)
    (case z3 => k_is)
    (case z4 => k_is)
    (case z5 => k_is)
    (case z6 => k_is)
    (case z7 => k_is)
    (case t5 => exact rfl)
    (case nt => kernel_rfl)
