import PyProof.Rows.All
import HandS.ForMost
import HandS.Property
import HandS.ExcInit
import HandS.TupAny
import HandS.TupMul
import HandS.Wide
import HandS.Deep
import HandS.ForExc
import HandS.SortInts
import HandS.Conv
import HandS.Zip
import HandS.Comp
import HandS.Style
import HandS.IsInst
import HandS.Codes
import HandS.RaiseMore
import HandS.Words
import HandS.Ends
import HandS.WideBits
import HandS.Iter
import KE.GoesEnum
import PyProof.FitsInt
import PyProof.ReprLen
import HandS.SetFor
import HandS.Strs
import HandS.Star
import KE.KTupSum
import HandS.TupLe
import HandS.Small
import KE.KCallOwn
import PyProof.StrLawsRepr
import PySem.Challenge.RW_mintlots_k34_whole_losses_of_deals_and_w
section S1_
set_option Elab.async false
set_option linter.all false
set_option maxRecDepth 100000
/-! Mv: values without addresses over the hand layer: what a slot holds is a tree of values, or a list of one's own that may be written. -/
namespace Mv
open PySem PySem.Spec PyProof.Rows L2

/-- a value as a tree; lists and dicts in it are never written again -/
inductive PV where
  | non
  | bl (b : Bool)
  | int (i : Int)
  | str (s : Str)
  | tup (xs : List PV)
  | lst (xs : List PV)
  | dK (ks : List Key) (vs : List PV)
  | dT (ks : List (List Key)) (vs : List PV)
  | ins (c : Str) (ns : List Str) (vs : List PV)

/-- an object of one's own, held by one name (or one value in flight) alone -/
inductive OV where
  | lst (xs : List PV)
  | dK (ks : List Key) (vs : List PV)
  | dT (ks : List (List Key)) (vs : List PV)
  | ins (c : Str) (ns : List Str) (vs : List PV)

def OV.pv : OV → PV
  | .lst xs => .lst xs
  | .dK ks vs => .dK ks vs
  | .dT ks vs => .dT ks vs
  | .ins c ns vs => .ins c ns vs

inductive Slot where
  | un
  | sh (p : PV)
  | ow (o : OV)

def Slot.pv? : Slot → Option PV
  | .un => none
  | .sh p => some p
  | .ow o => some o.pv

abbrev Env := List Slot

/-- an operand: a value that stays, a new object, the object of a slot -/
inductive Opd where
  | val (p : PV)
  | tmp (o : OV)
  | plc (i : Nat)

structure Exn where
  cls : Str
  fs : List (Str × PV)

inductive Rs (α : Type) where
  | ok (a : α) (Γ : Env)
  | ex (e : Exn) (Γ : Env)
  | no

def Rs.bind {α β : Type} (r : Rs α) (k : α → Env → Rs β) : Rs β :=
  match r with
  | .ok a Γ => k a Γ
  | .ex e Γ => .ex e Γ
  | .no => .no

abbrev ESem := Env → Rs Opd
abbrev TSem := Env → Rs Bool
abbrev ASem := Env → Rs (List Opd)

/-- what an operand shows -/
def vw (Γ : Env) : Opd → Option PV
  | .val p => some p
  | .tmp o => some o.pv
  | .plc i => (Γ[i]?).bind Slot.pv?

section
variable (K : PySem.W.Frag) (mg : Str → Option Value) (H : Hp)

def KLs (a : Addr) (xs : List V) : Prop := ∃ (its : Array Value) (n : Nat), K.lookup a = some { cls := .type "list", data := .seq its n } ∧ its.size ≤ sizeLine ∧ Vals xs its.toList
def FzL (a : Addr) (xs : List V) : Prop := (∃ o, H a = some (.frz o (.lst xs))) ∨ KLs K a xs

mutual
def Rp : PV → V → Prop
  | .non, v => v = .non
  | .bl b, v => v = .bl b
  | .int i, v => v = .int i
  | .str x, v => v = .str x
  | .tup ps, v => ∃ a xs, v = .ref a ∧ SqT K H a xs ∧ RpA ps xs
  | .lst ps, v => ∃ a xs, v = .ref a ∧ FzL K H a xs ∧ RpA ps xs
  | .dK ks ps, v => ∃ a kvs o, v = .ref a ∧ H a = some (.frz o (.dK kvs)) ∧ kvs.map (·.1) = ks ∧ RpA ps (kvs.map (·.2))
  | .dT ks ps, v => ∃ a kvs o, v = .ref a ∧ H a = some (.frz o (.dT kvs)) ∧ kvs.map (·.1) = ks ∧ RpA ps (kvs.map (·.2))
  | .ins c ns ps, v => ∃ a C dx fs o, v = .ref a ∧ mg c = some (.ref C) ∧ H a = some (.frz o (.ins C dx fs)) ∧ fs.map (·.1) = ns ∧ RpA ps (fs.map (·.2))
def RpA : List PV → List V → Prop
  | [], xs => xs = []
  | p :: ps, xs => ∃ x r, xs = x :: r ∧ Rp p x ∧ RpA ps r
end

def OwnO (a : Addr) : OV → Prop
  | .lst ps => ∃ xs, H a = some (.lst xs) ∧ RpA K mg H ps xs
  | .dK ks ps => ∃ kvs, H a = some (.dK kvs) ∧ kvs.map (·.1) = ks ∧ RpA K mg H ps (kvs.map (·.2))
  | .dT ks ps => ∃ kvs, H a = some (.dT kvs) ∧ kvs.map (·.1) = ks ∧ RpA K mg H ps (kvs.map (·.2))
  | .ins c ns ps => ∃ C dx fs, mg c = some (.ref C) ∧ H a = some (.ins C dx fs) ∧ fs.map (·.1) = ns ∧ RpA K mg H ps (fs.map (·.2))

/-- a place with what it holds -/
abbrev RS := Option V × Slot
def RelS : RS → Prop
  | (_, .un) => True
  | (v, .sh p) => ∃ x, v = some x ∧ Rp K mg H p x
  | (v, .ow o) => ∃ a, v = some (.ref a) ∧ OwnO K mg H a o
/-- as read: a list of one's own shows as a list -/
def RpV (p : PV) (v : V) : Prop := Rp K mg H p v ∨ ∃ a o, v = .ref a ∧ p = OV.pv o ∧ OwnO K mg H a o
end

def ownAt : RS → Option Addr
  | (some (.ref a), .ow _) => some a
  | _ => none
def own (rs : List RS) : List Addr := rs.filterMap ownAt

/-- nothing that stays is lost: tuples, what is locked -/
structure Le (H H' : Hp) : Prop where
  tup : ∀ a xs, H a = some (.tup xs) → H' a = some (.tup xs)
  frz : ∀ a o u, H a = some (.frz o u) → H' a = some (.frz o u)
theorem Le.refl {H : Hp} : Le H H := ⟨fun _ _ h => h, fun _ _ _ h => h⟩
theorem Le.trans {H H1 H2 : Hp} (a : Le H H1) (b : Le H1 H2) : Le H H2 := ⟨fun x y h => b.tup x y (a.tup x y h), fun x y z h => b.frz x y z (a.frz x y z h)⟩
theorem Le.fresh {H : Hp} {p : Addr} {o : HO} (h : H p = none) : Le H (upd H p o) :=
  ⟨fun a xs e => by rw [upd_ne (ne_of_none e h)]; exact e, fun a xs u e => by rw [upd_ne (ne_of_none e h)]; exact e⟩
theorem Le.write {H : Hp} {p : Addr} {u o : HO} (h : H p = some u) (m : Mut (some u)) : Le H (upd H p o) :=
  ⟨fun a xs e => by
      rw [upd_ne (fun z => by rw [z, h] at e; cases e; exact m)]; exact e,
   fun a xs v e => by
      rw [upd_ne (fun z => by rw [z, h] at e; cases e; exact m)]; exact e⟩

section
variable {K : PySem.W.Frag} {mg : Str → Option Value} {H H' : Hp}
theorem SqT.le (l : Le H H') {a : Addr} {xs : List V} (h : SqT K H a xs) : SqT K H' a xs := by
  rcases h with (h | ⟨o, h⟩) | h
  · exact .inl (.inl (l.tup _ _ h))
  · exact .inl (.inr ⟨o, l.frz _ _ _ h⟩)
  · exact .inr h
theorem FzL.le (l : Le H H') {a : Addr} {xs : List V} (h : FzL K H a xs) : FzL K H' a xs := by
  rcases h with ⟨o, h⟩ | h
  · exact .inl ⟨o, l.frz _ _ _ h⟩
  · exact .inr h
theorem FzL.sq {a : Addr} {xs : List V} (h : FzL K H a xs) : SqL K H a xs := by
  rcases h with ⟨o, h⟩ | ⟨its, n, h1, h2, h3⟩
  · exact .inl (.inr ⟨o, h⟩)
  · exact .inr ⟨_, its, n, h1, rfl, rfl, rfl, h2, h3⟩
mutual
theorem Rp.le (l : Le H H') : ∀ (p : PV) (v : V), Rp K mg H p v → Rp K mg H' p v
  | .non, v, h => h
  | .bl b, v, h => h
  | .int i, v, h => h
  | .str x, v, h => h
  | .tup ps, v, h => by
    obtain ⟨a, xs, e, h1, h2⟩ := h
    exact ⟨a, xs, e, SqT.le l h1, RpA.le l ps xs h2⟩
  | .lst ps, v, h => by
    obtain ⟨a, xs, e, h1, h2⟩ := h
    exact ⟨a, xs, e, FzL.le l h1, RpA.le l ps xs h2⟩
  | .dK ks ps, v, h => by
    obtain ⟨a, kvs, o, e, h1, h2, h3⟩ := h
    exact ⟨a, kvs, o, e, l.frz _ _ _ h1, h2, RpA.le l ps _ h3⟩
  | .dT ks ps, v, h => by
    obtain ⟨a, kvs, o, e, h1, h2, h3⟩ := h
    exact ⟨a, kvs, o, e, l.frz _ _ _ h1, h2, RpA.le l ps _ h3⟩
  | .ins c ns ps, v, h => by
    obtain ⟨a, C, dx, fs, o, e, h0, h1, h2, h3⟩ := h
    exact ⟨a, C, dx, fs, o, e, h0, l.frz _ _ _ h1, h2, RpA.le l ps _ h3⟩
theorem RpA.le (l : Le H H') : ∀ (ps : List PV) (xs : List V), RpA K mg H ps xs → RpA K mg H' ps xs
  | [], xs, h => h
  | p :: ps, xs, h => by
    obtain ⟨x, r, e, h1, h2⟩ := h
    exact ⟨x, r, e, Rp.le l p x h1, RpA.le l ps r h2⟩
end
theorem OwnO.le (l : Le H H') {a : Addr} {o : OV} (e : H' a = H a) (h : OwnO K mg H a o) : OwnO K mg H' a o := by
  cases o with
  | lst ps => obtain ⟨xs, h1, h2⟩ := h; exact ⟨xs, e.trans h1, RpA.le l _ _ h2⟩
  | dK ks ps => obtain ⟨kvs, h1, h2, h3⟩ := h; exact ⟨kvs, e.trans h1, h2, RpA.le l _ _ h3⟩
  | dT ks ps => obtain ⟨kvs, h1, h2, h3⟩ := h; exact ⟨kvs, e.trans h1, h2, RpA.le l _ _ h3⟩
  | ins c ns ps => obtain ⟨C, dx, fs, h0, h1, h2, h3⟩ := h; exact ⟨C, dx, fs, h0, e.trans h1, h2, RpA.le l _ _ h3⟩
theorem OwnO.mut {a : Addr} {o : OV} (h : OwnO K mg H a o) : ∃ u, H a = some u ∧ Mut (some u) := by
  cases o with
  | lst ps => obtain ⟨xs, h1, h2⟩ := h; exact ⟨_, h1, trivial⟩
  | dK ks ps => obtain ⟨kvs, h1, h2, h3⟩ := h; exact ⟨_, h1, trivial⟩
  | dT ks ps => obtain ⟨kvs, h1, h2, h3⟩ := h; exact ⟨_, h1, trivial⟩
  | ins c ns ps => obtain ⟨C, dx, fs, h0, h1, h2, h3⟩ := h; exact ⟨_, h1, trivial⟩
/-- an own object, locked, is a value -/
theorem OwnO.lock {a : Addr} {o : OV} {u : HO} {od : Obj} (h : OwnO K mg H a o) (hu : H a = some u) : Rp K mg (upd H a (.frz od u)) o.pv (.ref a) := by
  have l : Le H (upd H a (.frz od u)) := by
    obtain ⟨u', e, m⟩ := h.mut
    rw [hu] at e; cases e
    exact Le.write hu m
  cases o with
  | lst ps =>
    obtain ⟨xs, h1, h2⟩ := h
    rw [hu] at h1; cases h1
    exact ⟨a, xs, rfl, .inl ⟨od, upd_same⟩, RpA.le l _ _ h2⟩
  | dK ks ps =>
    obtain ⟨kvs, h1, h2, h3⟩ := h
    rw [hu] at h1; cases h1
    exact ⟨a, kvs, od, rfl, upd_same, h2, RpA.le l _ _ h3⟩
  | dT ks ps =>
    obtain ⟨kvs, h1, h2, h3⟩ := h
    rw [hu] at h1; cases h1
    exact ⟨a, kvs, od, rfl, upd_same, h2, RpA.le l _ _ h3⟩
  | ins c ns ps =>
    obtain ⟨C, dx, fs, h0, h1, h2, h3⟩ := h
    rw [hu] at h1; cases h1
    exact ⟨a, C, dx, fs, od, rfl, h0, upd_same, h2, RpA.le l _ _ h3⟩
end

/-- the layer's context: the wish about exceptions, the heap at the def's entry, the objects of the caller that the def may write (by slot) -/
structure Lx where
  X : Cx
  E : XK
  B : Hp
  M : List (Nat × Addr)

structure St0 (K : PySem.W.Frag) (mg : Str → Option Value) (B : Hp) (M : List (Nat × Addr)) (rs : List RS) (H : Hp) : Prop where
  rel : ∀ r ∈ rs, RelS K mg H r
  nd : (own rs).Nodup
  nw : ∀ a ∈ own rs, a ∈ M.map (·.2) ∨ B a = none
  base : ∀ a o, B a = some o → a ∉ M.map (·.2) → H a = some o
def St (L : Lx) (rs : List RS) (H : Hp) : Prop := St0 L.X.K L.X.mg L.B L.M rs H

theorem own_nil : own [] = [] := rfl
theorem own_app (rs qs : List RS) : own (rs ++ qs) = own rs ++ own qs := List.filterMap_append
theorem own_un (v : Option V) (rs : List RS) : own ((v, .un) :: rs) = own rs := by
  unfold own
  rw [List.filterMap_cons]
  cases v with
  | none => rfl
  | some v => cases v <;> rfl
theorem own_sh (v : Option V) (p : PV) (rs : List RS) : own ((v, .sh p) :: rs) = own rs := by
  unfold own
  rw [List.filterMap_cons]
  cases v with
  | none => rfl
  | some v => cases v <;> rfl
theorem own_ow (a : Addr) (o : OV) (rs : List RS) : own ((some (.ref a), .ow o) :: rs) = a :: own rs := by
  unfold own
  rw [List.filterMap_cons]
  rfl
theorem mem_own {rs : List RS} {a : Addr} (h : a ∈ own rs) : ∃ o, (some (.ref a), Slot.ow o) ∈ rs := by
  obtain ⟨r, h1, h2⟩ := List.mem_filterMap.mp h
  obtain ⟨v, sl⟩ := r
  cases sl with
  | ow o =>
    cases v with
    | none => cases h2
    | some v =>
      cases v <;> try cases h2
      exact ⟨o, h1⟩
  | un => cases v with
    | none => cases h2
    | some v => cases v <;> cases h2
  | sh p => cases v with
    | none => cases h2
    | some v => cases v <;> cases h2

namespace St
variable {L : Lx} {rs qs : List RS} {H H' : Hp}
theorem perm (s : St L rs H) (h : rs.Perm qs) : St L qs H :=
  ⟨fun r hr => s.rel r (h.mem_iff.mpr hr), (h.filterMap ownAt).nodup_iff.mp s.nd, fun a ha => s.nw a ((h.filterMap ownAt).mem_iff.mpr ha), s.base⟩
theorem sub (s : St L rs H) (h : qs.Sublist rs) : St L qs H :=
  ⟨fun r hr => s.rel r (h.subset hr), s.nd.sublist (h.filterMap ownAt), fun a ha => s.nw a ((h.filterMap ownAt).subset ha), s.base⟩
theorem tail {r : RS} (s : St L (r :: rs) H) : St L rs H := s.sub (List.sublist_cons_self r rs)
/-- an own object's place is known to be one's own alone -/
theorem mut_of (s : St L rs H) {a : Addr} (h : a ∈ own rs) : ∃ u, H a = some u ∧ Mut (some u) := by
  obtain ⟨o, ho⟩ := mem_own h
  obtain ⟨b, e, q⟩ := s.rel _ ho
  cases e
  exact q.mut
/-- heaps that keep all that these resources lean on -/
theorem keep (s : St L rs H) (l : Le H H') (e : ∀ a ∈ own rs, H' a = H a) (hb : ∀ a o, L.B a = some o → a ∉ L.M.map (·.2) → H' a = H a) : St L rs H' := by
  refine ⟨fun r hr => ?_, s.nd, s.nw, fun a o h1 h2 => (hb a o h1 h2).trans (s.base a o h1 h2)⟩
  obtain ⟨v, sl⟩ := r
  have q := s.rel _ hr
  cases sl with
  | un => trivial
  | sh p => obtain ⟨x, e1, q⟩ := q; exact ⟨x, e1, Rp.le l _ _ q⟩
  | ow o =>
    obtain ⟨a, e1, q⟩ := q
    subst e1
    exact ⟨a, rfl, q.le l (e a (List.mem_filterMap.mpr ⟨_, hr, rfl⟩))⟩
theorem fresh (s : St L rs H) {p : Addr} {o : HO} (h : H p = none) : St L rs (upd H p o) :=
  s.keep (Le.fresh h) (fun a ha => upd_ne (by obtain ⟨u, e, _⟩ := s.mut_of ha; exact ne_of_none e h)) fun a o h1 h2 => upd_ne (ne_of_none (s.base a o h1 h2) h)
theorem push_val (s : St L rs H) {p : PV} {v : V} (h : Rp L.X.K L.X.mg H p v) : St L ((some v, .sh p) :: rs) H :=
  ⟨fun r hr => by
      rcases List.mem_cons.mp hr with rfl | hr
      · exact ⟨v, rfl, h⟩
      · exact s.rel r hr, by rw [own_sh]; exact s.nd, by rw [own_sh]; exact s.nw, s.base⟩
theorem push_un (s : St L rs H) {v : Option V} : St L ((v, .un) :: rs) H :=
  ⟨fun r hr => by
      rcases List.mem_cons.mp hr with rfl | hr
      · trivial
      · exact s.rel r hr, by rw [own_un]; exact s.nd, by rw [own_un]; exact s.nw, s.base⟩
theorem none_of (s : St L rs H) {a : Addr} (h : H a = none) : a ∉ own rs := fun ha => by
  obtain ⟨u, e, _⟩ := s.mut_of ha
  rw [h] at e; cases e
/-- a new object of one's own -/
theorem push_own (s : St L rs H) {a : Addr} {o : OV} {u : HO} (h : H a = none) (q : OwnO L.X.K L.X.mg (upd H a u) a o) : St L ((some (.ref a), .ow o) :: rs) (upd H a u) := by
  have s1 := s.fresh (o := u) h
  refine ⟨fun r hr => ?_, ?_, ?_, s1.base⟩
  · rcases List.mem_cons.mp hr with rfl | hr
    · exact ⟨a, rfl, q⟩
    · exact s1.rel r hr
  · rw [own_ow]; exact List.nodup_cons.mpr ⟨s.none_of h, s.nd⟩
  · rw [own_ow]
    intro b hb
    rcases List.mem_cons.mp hb with rfl | hb
    · by_cases hm : b ∈ L.M.map (·.2)
      · exact .inl hm
      · refine .inr ?_
        cases e : L.B b with
        | none => rfl
        | some o' =>
          have := s.base b o' e hm
          rw [h] at this; cases this
    · exact s.nw b hb
/-- one's own object is written -/
theorem write (a : Addr) (o o' : OV) (u : HO) (s : St L ((some (.ref a), .ow o) :: rs) H) (q : OwnO L.X.K L.X.mg (upd H a u) a o') : St L ((some (.ref a), .ow o') :: rs) (upd H a u) := by
  have hm : a ∈ own ((some (.ref a), Slot.ow o) :: rs) := by rw [own_ow]; exact List.mem_cons_self
  obtain ⟨u0, e0, m0⟩ := s.mut_of hm
  have nd := s.nd
  rw [own_ow] at nd
  have hn := (List.nodup_cons.mp nd).1
  have l : Le H (upd H a u) := Le.write e0 m0
  have s1 : St L rs (upd H a u) := s.tail.keep l (fun b hb => upd_ne (fun z => hn (z ▸ hb))) fun b o h1 h2 => upd_ne (fun z => by
    subst z
    rcases s.nw b hm with r | r
    · exact h2 r
    · rw [h1] at r; cases r)
  refine ⟨fun r hr => ?_, by rw [own_ow]; exact nd, ?_, s1.base⟩
  · rcases List.mem_cons.mp hr with rfl | hr
    · exact ⟨a, rfl, q⟩
    · exact s1.rel r hr
  · have := s.nw; rw [own_ow] at this ⊢; exact this
/-- one's own object is given up: locked for ever -/
theorem give (a : Addr) (o : OV) (u : HO) (od : Obj) (s : St L ((some (.ref a), .ow o) :: rs) H) (e0 : H a = some u) : St L ((some (.ref a), .sh o.pv) :: rs) (upd H a (.frz od u)) := by
  have hm : a ∈ own ((some (.ref a), Slot.ow o) :: rs) := by rw [own_ow]; exact List.mem_cons_self
  obtain ⟨u0, e1, m0⟩ := s.mut_of hm
  rw [e0] at e1; cases e1
  have nd := s.nd
  rw [own_ow] at nd
  have hn := (List.nodup_cons.mp nd).1
  have l : Le H (upd H a (.frz od u)) := Le.write e0 m0
  have s1 : St L rs (upd H a (.frz od u)) := s.tail.keep l (fun b hb => upd_ne (fun z => hn (z ▸ hb))) fun b o h1 h2 => upd_ne (fun z => by
    subst z
    rcases s.nw b hm with r | r
    · exact h2 r
    · rw [h1] at r; cases r)
  refine s1.push_val ?_
  obtain ⟨b, e, q⟩ := s.rel _ List.mem_cons_self
  cases e
  exact q.lock e0
theorem view (s : St L rs H) {v : V} {sl : Slot} {p : PV} (h : (some v, sl) ∈ rs) (e : sl.pv? = some p) : RpV L.X.K L.X.mg H p v := by
  have q := s.rel _ h
  cases sl with
  | un => cases e
  | sh p' =>
    cases e
    obtain ⟨x, e1, q⟩ := q
    cases e1
    exact .inl q
  | ow o =>
    cases e
    obtain ⟨a, e1, q⟩ := q
    cases e1
    exact .inr ⟨a, o, rfl, rfl, q⟩
end St
end Mv
end S1_

section S2_
set_option Elab.async false
set_option linter.all false
set_option maxRecDepth 100000
namespace Mv
open PySem PySem.Spec PyProof.Rows L2

/-- weaker readings -/
theorem peI {X : Cx} {e : Expr} {t t' : TE} (h : PE X e t) (i : ∀ σ H Q, t' σ H Q → t σ H Q) : PE X e t' :=
  ⟨fun pins s σ H Q I q => h.run pins s σ H Q I (i σ H Q q)⟩
theorem ptI {X : Cx} {e : Expr} {t t' : TT} (h : PT X e t) (i : ∀ σ H Q, t' σ H Q → t σ H Q) : PT X e t' :=
  ⟨fun pins s σ H Q I q => h.run pins s σ H Q I (i σ H Q q)⟩
theorem paI {X : Cx} {e : List Expr} {t t' : TA} (h : PA X e t) (i : ∀ σ H Q, t' σ H Q → t σ H Q) : PA X e t' :=
  ⟨fun pos pins s σ H Q I q => h.run pos pins s σ H Q I (i σ H Q q)⟩
theorem psI {X : Cx} {st : Stmt} {t t' : TS} (h : PS X st t) (i : ∀ D σ H, t' D σ H → t D σ H) : PS X st t' :=
  ⟨fun pins s σ H D I q => h.run pins s σ H D I (i D σ H q)⟩
theorem pssI {X : Cx} {st : List Stmt} {t t' : TS} (h : PSs X st t) (i : ∀ D σ H, t' D σ H → t D σ H) : PSs X st t' :=
  ⟨fun pins s σ H D I q => h.run pins s σ H D I (i D σ H q)⟩

/-- an operand's own resource -/
def psh : Opd → V → List RS → List RS
  | .val p, v, T => (some v, .sh p) :: T
  | .tmp o, v, T => (some v, .ow o) :: T
  | .plc _, _, T => T
theorem psh_sub (d : Opd) (v : V) (T : List RS) : T.Sublist (psh d v T) := by
  cases d with
  | val p => exact List.sublist_cons_self _ _
  | tmp o => exact List.sublist_cons_self _ _
  | plc i => exact List.Sublist.refl _
theorem psh_mono (d : Opd) (v : V) {T T' : List RS} (h : T.Sublist T') : (psh d v T).Sublist (psh d v T') := by
  cases d with
  | val p => exact h.cons_cons _
  | tmp o => exact h.cons_cons _
  | plc i => exact h
theorem psh_mid (d : Opd) (v : V) (A T : List RS) : (psh d v (A ++ T)).Perm (A ++ psh d v T) := by
  cases d with
  | val p => exact List.perm_middle.symm
  | tmp o => exact List.perm_middle.symm
  | plc i => exact List.Perm.refl _

/-- where an operand's value lies -/
def Has (σ : L2.St) (R : List RS) : Opd → V → Prop
  | .val p, v => (some v, .sh p) ∈ R
  | .tmp o, v => (some v, .ow o) ∈ R
  | .plc i, v => σ[i]? = some (some v)
theorem Has.here {σ : L2.St} (d : Opd) (v : V) (T : List RS) (h : ∀ i, d = .plc i → σ[i]? = some (some v)) : Has σ (psh d v T) d v := by
  cases d with
  | val p => exact List.mem_cons_self
  | tmp o => exact List.mem_cons_self
  | plc i => exact h i rfl
theorem Has.up {σ : L2.St} {R R' : List RS} (h : ∀ r ∈ R, r ∈ R') : ∀ {d : Opd} {v : V}, Has σ R d v → Has σ R' d v
  | .val _, _, q => h _ q
  | .tmp _, _, q => h _ q
  | .plc _, _, q => q

structure OpP0 (K : PySem.W.Frag) (mg : Str → Option Value) (B : Hp) (M : List (Nat × Addr)) (σ : L2.St) (Γ : Env) (T : List RS) (d : Opd) (v : V) (H : Hp) : Prop where
  st0 : St0 K mg B M (σ.zip Γ ++ psh d v T) H
  pl : ∀ i, d = .plc i → σ[i]? = some (some v)
def OpP (L : Lx) (σ : L2.St) (Γ : Env) (T : List RS) (d : Opd) (v : V) (H : Hp) : Prop := OpP0 L.X.K L.X.mg L.B L.M σ Γ T d v H
theorem OpP.st {L : Lx} {σ : L2.St} {Γ : Env} {T : List RS} {d : Opd} {v : V} {H : Hp} (o : OpP L σ Γ T d v H) : St L (σ.zip Γ ++ psh d v T) H := o.st0

theorem OpP.has {L : Lx} {σ : L2.St} {Γ : Env} {T : List RS} {d : Opd} {v : V} {H : Hp} (h : OpP L σ Γ T d v H) : Has σ (psh d v T) d v := Has.here d v T h.pl

theorem view_of {L : Lx} {σ : L2.St} {Γ : Env} {R : List RS} {d : Opd} {v : V} {p : PV} {H : Hp} (st : St L (σ.zip Γ ++ R) H) (h : Has σ R d v) (e : vw Γ d = some p) : RpV L.X.K L.X.mg H p v := by
  cases d with
  | val q => exact st.view (List.mem_append_right _ h) e
  | tmp o => exact st.view (List.mem_append_right _ h) e
  | plc i =>
    have h : σ[i]? = some (some v) := h
    have e : (Γ[i]?).bind Slot.pv? = some p := e
    cases q : Γ[i]? with
    | none => rw [q] at e; cases e
    | some sl =>
      rw [q] at e
      refine st.view (List.mem_append_left _ ?_) e
      refine List.mem_of_getElem? (i := i) ?_
      rw [List.getElem?_zip_eq_some]
      exact ⟨h, q⟩

/-- an exception as it lies -/
def ExP (L : Lx) (e : Exn) (C : Value) (d : Option Addr) (H : Hp) : Prop :=
  (∃ c, L.X.mg e.cls = some (.ref c) ∧ C = .ref c) ∧
    ((e.fs = [] ∧ d = none) ∨ ∃ a fs, d = some a ∧ H a = some (.xd fs) ∧ fs.map (·.1) = e.fs.map (·.1) ∧ RpA L.X.K L.X.mg H (e.fs.map (·.2)) (fs.map (·.2)))

/-- what an outcome is to give -/
def Pst {α : Type} (L : Lx) (σ : L2.St) (T : List RS) (r : Rs α) (k : α → Env → Prop) : Prop :=
  match r with
  | .ok a Γ' => Γ'.length = σ.length → k a Γ'
  | .ex e Γ' => ∀ C d H', Γ'.length = σ.length → St L (σ.zip Γ' ++ T) H' → ExP L e C d H' → L.E C d H'
  | .no => False

def tE (L : Lx) (f : ESem) : TE := fun σ H Q => ∃ Γ T, Γ.length = σ.length ∧ St L (σ.zip Γ ++ T) H ∧
  Pst L σ T (f Γ) fun d Γ' => ∀ v H', OpP L σ Γ' T d v H' → Q v H'
def tT (L : Lx) (f : TSem) : TT := fun σ H Q => ∃ Γ T, Γ.length = σ.length ∧ St L (σ.zip Γ ++ T) H ∧
  Pst L σ T (f Γ) fun b Γ' => ∀ H', St L (σ.zip Γ' ++ T) H' → Q b H'

theorem Pst.mono {α : Type} {L : Lx} {σ : L2.St} {T T1 : List RS} {r : Rs α} {k : α → Env → Prop} (hs : T.Sublist T1) (h : Pst L σ T r k) : Pst L σ T1 r k := by
  cases r with
  | ok a Γ' => exact h
  | ex e Γ' => exact fun C d H' hl st x => h C d H' hl (st.sub (List.Sublist.append (List.Sublist.refl _) hs)) x
  | no => exact h
/-- one step, then the rest -/
theorem tE_bind {α : Type} {L : Lx} {σ : L2.St} {Γ : Env} {T T1 : List RS} {H : Hp} {f : ESem} {k : Opd → Env → Rs α} {Kp : α → Env → Prop} {R : V → Hp → Prop} (hl : Γ.length = σ.length) (hs : T.Sublist T1) (st : St L (σ.zip Γ ++ T1) H)
    (h : Pst L σ T ((f Γ).bind k) Kp) (hR : ∀ d Γ' v H', Γ'.length = σ.length → OpP L σ Γ' T1 d v H' → Pst L σ T (k d Γ') Kp → R v H') : tE L f σ H R := by
  refine ⟨Γ, T1, hl, st, ?_⟩
  cases e : f Γ with
  | ok d Γ' => rw [e] at h; exact fun hl' v H' o => hR d Γ' v H' hl' o h
  | ex x Γ' => rw [e] at h; exact Pst.mono (α := α) (r := Rs.ex x Γ') (k := Kp) hs h
  | no => rw [e] at h; exact h
theorem tT_bind {α : Type} {L : Lx} {σ : L2.St} {Γ : Env} {T T1 : List RS} {H : Hp} {f : TSem} {k : Bool → Env → Rs α} {Kp : α → Env → Prop} {R : Bool → Hp → Prop} (hl : Γ.length = σ.length) (hs : T.Sublist T1) (st : St L (σ.zip Γ ++ T1) H)
    (h : Pst L σ T ((f Γ).bind k) Kp) (hR : ∀ b Γ' H', Γ'.length = σ.length → St L (σ.zip Γ' ++ T1) H' → Pst L σ T (k b Γ') Kp → R b H') : tT L f σ H R := by
  refine ⟨Γ, T1, hl, st, ?_⟩
  cases e : f Γ with
  | ok b Γ' => rw [e] at h; exact fun hl' H' o => hR b Γ' H' hl' o h
  | ex x Γ' => rw [e] at h; exact Pst.mono (α := α) (r := Rs.ex x Γ') (k := Kp) hs h
  | no => rw [e] at h; exact h

/-- the operand that a rule hands back, over the operands that are used up -/
theorem OpP.fin {L : Lx} {σ : L2.St} {Γ : Env} {T R : List RS} {d : Opd} {v : V} {H : Hp} (hd : ∀ i, d ≠ .plc i) (hs : T.Sublist R) (st : St L (psh d v (σ.zip Γ ++ R)) H) : OpP L σ Γ T d v H :=
  ⟨(st.perm (psh_mid d v _ _)).sub (List.Sublist.append (List.Sublist.refl _) (psh_mono d v hs)), fun i e => absurd e (hd i)⟩

/-- results of rules -/
inductive Rv where
  | val (p : PV)
  | tmp (o : OV)
def Rv.opd : Rv → Opd
  | .val p => .val p
  | .tmp o => .tmp o
theorem Rv.np (r : Rv) : ∀ i, r.opd ≠ .plc i := by cases r <;> intro i h <;> cases h

def lift1 (op : PV → Option Rv) (d : Opd) (Γ : Env) : Rs Opd :=
  match (vw Γ d).bind op with
  | some r => .ok r.opd Γ
  | none => .no
def lift2 (op : PV → PV → Option Rv) (d1 d2 : Opd) (Γ : Env) : Rs Opd :=
  match vw Γ d1, vw Γ d2 with
  | some p, some q =>
    match op p q with
    | some r => .ok r.opd Γ
    | none => .no
  | _, _ => .no

/-- a rule over two values is served by op -/
def Op2S (L : Lx) (op : PV → PV → Option Rv) (r : R2) : Prop := ∀ (rs : List RS) (p q : PV) (z : Rv) (x y : V) (H : Hp) (Q : VK), St L rs H → RpV L.X.K L.X.mg H p x → RpV L.X.K L.X.mg H q y → op p q = some z →
  (∀ v H', St L (psh z.opd v rs) H' → Q v H') → r x y H Q
def Op1S (L : Lx) (op : PV → Option Rv) (r : V → Hp → VK → Prop) : Prop := ∀ (rs : List RS) (p : PV) (z : Rv) (x : V) (H : Hp) (Q : VK), St L rs H → RpV L.X.K L.X.mg H p x → op p = some z →
  (∀ v H', St L (psh z.opd v rs) H' → Q v H') → r x H Q

def eBin (op : PV → PV → Option Rv) (f g : ESem) : ESem := fun Γ => (f Γ).bind fun d1 Γ1 => (g Γ1).bind fun d2 Γ2 => lift2 op d1 d2 Γ2
def eUn (op : PV → Option Rv) (f : ESem) : ESem := fun Γ => (f Γ).bind fun d1 Γ1 => lift1 op d1 Γ1

theorem lift1_fin {L : Lx} {σ : L2.St} {Γ : Env} {T R : List RS} {op : PV → Option Rv} {r : V → Hp → VK → Prop} (ho : Op1S L op r) {d : Opd} {x : V} {H : Hp} {Q : VK} (hl : Γ.length = σ.length) (hs : T.Sublist R) (st : St L (σ.zip Γ ++ R) H)
    (hd : Has σ R d x) (h : Pst L σ T (lift1 op d Γ) fun d Γ' => ∀ v H', OpP L σ Γ' T d v H' → Q v H') : r x H Q := by
  unfold lift1 at h
  cases e : vw Γ d with
  | none => rw [e] at h; exact h.elim
  | some p =>
    rw [e] at h
    cases e2 : op p with
    | none => simp only [Option.bind_some, e2] at h; exact h.elim
    | some z =>
      simp only [Option.bind_some, e2] at h
      exact ho _ p z x H Q st (view_of st hd e) e2 fun v H' st' => h hl v H' (OpP.fin z.np hs st')
theorem lift2_fin {L : Lx} {σ : L2.St} {Γ : Env} {T R : List RS} {op : PV → PV → Option Rv} {r : R2} (ho : Op2S L op r) {d1 d2 : Opd} {x y : V} {H : Hp} {Q : VK} (hl : Γ.length = σ.length) (hs : T.Sublist R) (st : St L (σ.zip Γ ++ R) H)
    (h1 : Has σ R d1 x) (h2 : Has σ R d2 y) (h : Pst L σ T (lift2 op d1 d2 Γ) fun d Γ' => ∀ v H', OpP L σ Γ' T d v H' → Q v H') : r x y H Q := by
  unfold lift2 at h
  cases e : vw Γ d1 with
  | none => rw [e] at h; exact h.elim
  | some p =>
    cases e' : vw Γ d2 with
    | none => rw [e, e'] at h; exact h.elim
    | some q =>
      rw [e, e'] at h
      cases e2 : op p q with
      | none => simp only [e2] at h; exact h.elim
      | some z =>
        simp only [e2] at h
        exact ho _ p q z x y H Q st (view_of st h1 e) (view_of st h2 e') e2 fun v H' st' => h hl v H' (OpP.fin z.np hs st')

section
variable {L : Lx} {a b : Expr} {f g : ESem} {pos : Pos}
/-- two operands, then what a rule asks -/
theorem bin_go {op : PV → PV → Option Rv} {r : R2} (ho : Op2S L op r) {σ : L2.St} {H : Hp} {Q : VK} (h : tE L (eBin op f g) σ H Q) : tOp r (tE L f) (tE L g) σ H Q := by
  obtain ⟨Γ, T, hl, st, h⟩ := h
  refine tE_bind hl (List.Sublist.refl T) st h fun d1 Γ1 x H1 hl1 o1 h1 => ?_
  refine tE_bind hl1 (psh_sub d1 x T) o1.st h1 fun d2 Γ2 y H2 hl2 o2 h2 => ?_
  exact lift2_fin ho hl2 ((psh_sub d1 x T).trans (psh_sub d2 y _)) o2.st (o1.has.up fun r hr => (psh_sub d2 y _).subset hr) o2.has h2
theorem un_go {op : PV → Option Rv} {r : V → Hp → VK → Prop} (ho : Op1S L op r) {σ : L2.St} {H : Hp} {Q : VK} (h : tE L (eUn op f) σ H Q) : tUn r (tE L f) σ H Q := by
  obtain ⟨Γ, T, hl, st, h⟩ := h
  refine tE_bind hl (List.Sublist.refl T) st h fun d1 Γ1 x H1 hl1 o1 h1 => ?_
  exact lift1_fin ho hl1 (psh_sub d1 x T) o1.st o1.has h1
theorem e_bin {o : Operator} {op : PV → PV → Option Rv} {r : R2} (hr : OpR L.X (binaryOp o) r) (ho : Op2S L op r) (ha : PE L.X a (tE L f)) (hb : PE L.X b (tE L g)) : PE L.X (.BinOp a o b pos) (tE L (eBin op f g)) :=
  peI (pe_op hr ha hb) fun _ _ _ h => bin_go ho h
theorem e_un {o : UnaryOp} {op : PV → Option Rv} {r : V → Hp → VK → Prop} (hr : UnR L.X (unaryOp o) r) (ho : Op1S L op r) (ha : PE L.X a (tE L f)) : PE L.X (.UnaryOp o a pos) (tE L (eUn op f)) :=
  peI (pe_un hr ha) fun _ _ _ h => un_go ho h
theorem e_cmp {o : CmpOp} {op : PV → PV → Option Rv} {r : R2} (hr : OpR L.X (compareOp o) r) (ho : Op2S L op r) (ha : PE L.X a (tE L f)) (hb : PE L.X b (tE L g)) (hm : behindInMarks o b = false) : PE L.X (.Compare a [o] [b] pos) (tE L (eBin op f g)) :=
  peI (pe_cmpR hr ha hb hm) fun _ _ _ h => bin_go ho h
/-- two rules beside each other -/
theorem Op2S.orL {op op' : PV → PV → Option Rv} {r r' : R2} (h : Op2S L op r) (h' : Op2S L op' r') : Op2S L (fun p q => (op p q).orElse fun _ => op' p q) (fun x y H Q => r x y H Q ∨ r' x y H Q) := by
  intro rs p q z x y H Q st hx hy e hQ
  cases e1 : op p q with
  | some w =>
    have e : (op p q).orElse (fun _ => op' p q) = some z := e
    rw [e1] at e
    have e : some w = some z := e
    exact .inl (h rs p q z x y H Q st hx hy (e1.trans e) hQ)
  | none =>
    have e : (op p q).orElse (fun _ => op' p q) = some z := e
    rw [e1] at e
    exact .inr (h' rs p q z x y H Q st hx hy e hQ)
/-- op is part of a wider one -/
theorem Op2S.imp {op op' : PV → PV → Option Rv} {r : R2} (h : Op2S L op r) (i : ∀ p q z, op' p q = some z → op p q = some z) : Op2S L op' r :=
  fun rs p q z x y H Q st hx hy e hQ => h rs p q z x y H Q st hx hy (i p q z e) hQ
end

/-! ### names and constants -/
section
variable {L : Lx} {pos : Pos}
def eVar (i : Nat) : ESem := fun Γ =>
  match Γ[i]? with
  | some (.sh p) => .ok (.val p) Γ
  | some (.ow _) => .ok (.plc i) Γ
  | _ => .no
def eC (p : PV) : ESem := fun Γ => .ok (.val p) Γ
theorem e_c {e : Expr} {v : V} {p : PV} (h : PE L.X e (tC v)) (hp : ∀ H, Rp L.X.K L.X.mg H p v) : PE L.X e (tE L (eC p)) :=
  peI h fun σ H Q q => by
    obtain ⟨Γ, T, hl, st, q⟩ := q
    exact q hl v H ⟨(st.push_val (hp H)).perm (List.perm_middle.symm), fun i z => nomatch z⟩
theorem e_int {i : Int} {j} : PE L.X (.Constant (.int i) j pos) (tE L (eC (.int i))) := e_c pe_int fun _ => rfl
theorem e_str {i : Str} {j} : PE L.X (.Constant (.str i) j pos) (tE L (eC (.str i))) := e_c pe_str fun _ => rfl
theorem e_bl {i : Bool} {j} : PE L.X (.Constant (.bool i) j pos) (tE L (eC (.bl i))) := e_c pe_bl fun _ => rfl
theorem e_non {j} : PE L.X (.Constant .none j pos) (tE L (eC .non)) := e_c pe_non fun _ => rfl
theorem e_var {i : Nat} {x : Str} (h : PE L.X (.Name x pos) (tVar i)) : PE L.X (.Name x pos) (tE L (eVar i)) :=
  peI h fun σ H Q q => by
    obtain ⟨Γ, T, hl, st, q⟩ := q
    unfold eVar at q
    cases e : Γ[i]? with
    | none => rw [e] at q; exact q.elim
    | some sl =>
      rw [e] at q
      have hi : i < σ.length := by rw [← hl]; exact (List.getElem?_eq_some_iff.mp e).1
      have hm : (σ[i], sl) ∈ σ.zip Γ := List.mem_of_getElem? (i := i) (by rw [List.getElem?_zip_eq_some]; exact ⟨List.getElem?_eq_getElem hi, e⟩)
      have hr := st.rel _ (List.mem_append_left T hm)
      cases sl with
      | un => exact q.elim
      | sh p =>
        obtain ⟨x, e1, r⟩ := hr
        refine ⟨x, by rw [List.getElem?_eq_getElem hi]; exact congrArg some e1, q hl x H ⟨(st.push_val r).perm (List.perm_middle.symm), fun i z => nomatch z⟩⟩
      | ow o =>
        obtain ⟨a, e1, r⟩ := hr
        have e2 : σ[i]? = some (some (.ref a)) := by rw [List.getElem?_eq_getElem hi]; exact congrArg some e1
        exact ⟨.ref a, e2, q hl _ H ⟨st, fun j z => by cases z; exact e2⟩⟩
end

/-! ### arithmetic -/
theorem rv_int {K : PySem.W.Frag} {mg : Str → Option Value} {H : Hp} {i : Int} {x : V} (h : RpV K mg H (.int i) x) : x = .int i := by
  rcases h with h | ⟨a, o, _, e, _⟩
  · exact h
  · cases o <;> cases e
theorem rv_bl {K : PySem.W.Frag} {mg : Str → Option Value} {H : Hp} {i : Bool} {x : V} (h : RpV K mg H (.bl i) x) : x = .bl i := by
  rcases h with h | ⟨a, o, _, e, _⟩
  · exact h
  · cases o <;> cases e
theorem rv_str {K : PySem.W.Frag} {mg : Str → Option Value} {H : Hp} {i : Str} {x : V} (h : RpV K mg H (.str i) x) : x = .str i := by
  rcases h with h | ⟨a, o, _, e, _⟩
  · exact h
  · cases o <;> cases e
theorem rv_non {K : PySem.W.Frag} {mg : Str → Option Value} {H : Hp} {x : V} (h : RpV K mg H .non x) : x = .non := by
  rcases h with h | ⟨a, o, _, e, _⟩
  · exact h
  · cases o <;> cases e
theorem rv_tup {K : PySem.W.Frag} {mg : Str → Option Value} {H : Hp} {ps : List PV} {x : V} (h : RpV K mg H (.tup ps) x) : ∃ a xs, x = .ref a ∧ SqT K H a xs ∧ RpA K mg H ps xs := by
  rcases h with h | ⟨a, o, _, e, _⟩
  · exact h
  · cases o <;> cases e
theorem rv_lst {K : PySem.W.Frag} {mg : Str → Option Value} {H : Hp} {ps : List PV} {x : V} (h : RpV K mg H (.lst ps) x) : ∃ a xs, x = .ref a ∧ SqL K H a xs ∧ RpA K mg H ps xs := by
  rcases h with ⟨a, xs, e, h1, h2⟩ | ⟨a, o, e1, e, h⟩
  · exact ⟨a, xs, e, h1.sq, h2⟩
  · cases o with
    | lst qs =>
      cases e
      obtain ⟨xs, h1, h2⟩ := h
      exact ⟨a, xs, e1, .of h1, h2⟩
    | _ => cases e

def aInt (c : Int → Int → Bool) (g : Int → Int → Int) : PV → PV → Option Rv
  | .int i, .int j => if c i j then some (.val (.int (g i j))) else none
  | _, _ => none
def cInt (g : Int → Int → Bool) : PV → PV → Option Rv
  | .int i, .int j => some (.val (.bl (g i j)))
  | _, _ => none
section
variable {L : Lx}
theorem aInt_s {C : Int → Int → Prop} {c : Int → Int → Bool} {g : Int → Int → Int} (hc : ∀ i j, c i j = true → C i j) : Op2S L (aInt c g) (rI C fun i j => .int (g i j)) := by
  intro rs p q z x y H Q st hx hy e hQ
  obtain ⟨i, j, rfl, rfl⟩ : ∃ i j, p = .int i ∧ q = .int j := by
    cases p <;> cases q <;> first | exact ⟨_, _, rfl, rfl⟩ | exact absurd e (by simp [aInt])
  have e : (if c i j then some (Rv.val (.int (g i j))) else none) = some z := e
  split at e
  · rename_i h
    cases e
    exact ⟨i, j, rv_int hx, rv_int hy, hc i j h, hQ _ H (st.push_val rfl)⟩
  · cases e
theorem aInt0_s {g : Int → Int → Int} : Op2S L (aInt (fun _ _ => true) g) (rI0 fun i j => .int (g i j)) := by
  intro rs p q z x y H Q st hx hy e hQ
  cases p <;> try cases e
  cases q <;> try cases e
  rename_i i j
  exact ⟨i, j, rv_int hx, rv_int hy, hQ _ H (st.push_val rfl)⟩
theorem cInt_s {g : Int → Int → Bool} : Op2S L (cInt g) (rI0 fun i j => .bl (g i j)) := by
  intro rs p q z x y H Q st hx hy e hQ
  cases p <;> try cases e
  cases q <;> try cases e
  rename_i i j
  exact ⟨i, j, rv_int hx, rv_int hy, hQ _ H (st.push_val rfl)⟩
end

/-! ### small tests of size -/
def mulOk (i j : Int) : Bool := (decide (-(2 ^ 64) < i) && decide (i < 2 ^ 64)) || (decide (-(2 ^ 64) < j) && decide (j < 2 ^ 64))
def mulOkW (i j : Int) : Bool := decide (i.natAbs.log2 + j.natAbs.log2 < 1000000)
theorem mulOk_c (i j : Int) (h : mulOk i j = true) : CMul i j := by
  unfold mulOk at h
  simp only [Bool.or_eq_true, Bool.and_eq_true, decide_eq_true_eq] at h
  exact h
end Mv
end S2_

section S3_
set_option Elab.async false
set_option linter.all false
set_option maxRecDepth 100000
namespace Mv
open PySem PySem.Spec PyProof.Rows L2

inductive Fl where
  | nx (Γ : Env)
  | rt (d : Opd) (Γ : Env)
  | bk (Γ : Env)
  | ct (Γ : Env)
  | ex (e : Exn) (Γ : Env)
  | no
abbrev SSem := Env → Fl
def Rs.fl {α : Type} (r : Rs α) (k : α → Env → Fl) : Fl :=
  match r with
  | .ok a Γ => k a Γ
  | .ex e Γ => .ex e Γ
  | .no => .no
def Fl.seq (r : Fl) (k : Env → Fl) : Fl :=
  match r with
  | .nx Γ => k Γ
  | r => r

/-- the caller's objects lie where they lay -/
def Pin (L : Lx) (σ : L2.St) : Prop := ∀ p ∈ L.M, σ[p.1]? = some (some (.ref p.2))
def PstS (L : Lx) (n : Nat) (T : List RS) (r : Fl) (D : Ends) : Prop :=
  match r with
  | .nx Γ' => ∀ σ' H', Γ'.length = n → σ'.length = n → Pin L σ' → St L (σ'.zip Γ' ++ T) H' → D.nx σ' H'
  | .bk Γ' => ∀ σ' H', Γ'.length = n → σ'.length = n → Pin L σ' → St L (σ'.zip Γ' ++ T) H' → D.bk σ' H'
  | .ct Γ' => ∀ σ' H', Γ'.length = n → σ'.length = n → Pin L σ' → St L (σ'.zip Γ' ++ T) H' → D.ct σ' H'
  | .rt d Γ' => ∀ v σ' H', Γ'.length = n → σ'.length = n → Pin L σ' → OpP L σ' Γ' T d v H' → D.rt v H'
  | .ex e Γ' => ∀ C d σ' H', Γ'.length = n → σ'.length = n → Pin L σ' → St L (σ'.zip Γ' ++ T) H' → ExP L e C d H' → L.E C d H'
  | .no => False
def tS (L : Lx) (f : SSem) : TS := fun D σ H => ∃ Γ T, Γ.length = σ.length ∧ Pin L σ ∧ St L (σ.zip Γ ++ T) H ∧ PstS L σ.length T (f Γ) D

section
variable {L : Lx} {σ : L2.St} {H : Hp} {T T1 : List RS} {Γ : Env} {D : Ends}
theorem tE_fl {f : ESem} {k : Opd → Env → Fl} {R : V → Hp → Prop} (hl : Γ.length = σ.length) (hp : Pin L σ) (hs : T.Sublist T1) (st : St L (σ.zip Γ ++ T1) H) (h : PstS L σ.length T ((f Γ).fl k) D)
    (hR : ∀ d Γ' v H', Γ'.length = σ.length → OpP L σ Γ' T1 d v H' → PstS L σ.length T (k d Γ') D → R v H') : tE L f σ H R := by
  refine ⟨Γ, T1, hl, st, ?_⟩
  cases e : f Γ with
  | ok d Γ' => rw [e] at h; exact fun hl' v H' o => hR d Γ' v H' hl' o h
  | ex x Γ' => rw [e] at h; exact fun C d H' hl' s' xp => h C d σ H' hl' rfl hp (s'.sub (List.Sublist.append (List.Sublist.refl _) hs)) xp
  | no => rw [e] at h; exact h
theorem tT_fl {f : TSem} {k : Bool → Env → Fl} {R : Bool → Hp → Prop} (hl : Γ.length = σ.length) (hp : Pin L σ) (hs : T.Sublist T1) (st : St L (σ.zip Γ ++ T1) H) (h : PstS L σ.length T ((f Γ).fl k) D)
    (hR : ∀ d Γ' H', Γ'.length = σ.length → St L (σ.zip Γ' ++ T1) H' → PstS L σ.length T (k d Γ') D → R d H') : tT L f σ H R := by
  refine ⟨Γ, T1, hl, st, ?_⟩
  cases e : f Γ with
  | ok d Γ' => rw [e] at h; exact fun hl' H' o => hR d Γ' H' hl' o h
  | ex x Γ' => rw [e] at h; exact fun C d H' hl' s' xp => h C d σ H' hl' rfl hp (s'.sub (List.Sublist.append (List.Sublist.refl _) hs)) xp
  | no => rw [e] at h; exact h
/-- the state ahead of a statement -/
theorem tS.mk (f : SSem) (hl : Γ.length = σ.length) (hp : Pin L σ) (st : St L (σ.zip Γ ++ T) H) (h : PstS L σ.length T (f Γ) D) : tS L f D σ H := ⟨Γ, T, hl, hp, st, h⟩
end

/-! ### giving up one's own -/
/-- an expression's value may be locked at once, for ever -/
def tGive (t : TE) : TE := fun σ H Q => t σ H fun v H' => Q v H' ∨ ∃ a u, H' a = some u ∧ Mut (some u) ∧ ∀ od, Q v (upd H' a (.frz od u))
theorem pe_give {X : Cx} {e : Expr} {t : TE} (h : PE X e t) : PE X e (tGive t) := by
  refine ⟨fun pins s σ H Q I hw => ?_⟩
  refine thn (h.run pins s σ H _ I hw) fun v s1 ⟨x, H1, I1, r1, q1⟩ => ?_
  rcases q1 with q | ⟨a, u, e1, m, q⟩
  · exact ⟨x, H1, I1, r1, q⟩
  · obtain ⟨od, I2⟩ := I1.lock e1 m
    exact ⟨x, _, I2, r1, q od⟩

/-- no slot's object is handed on: it is locked -/
def kp (d : Opd) (Γ : Env) : Rs Opd :=
  match d with
  | .plc i =>
    match Γ[i]? with
    | some (.ow o) => .ok (.val o.pv) (Γ.set i (.sh o.pv))
    | some (.sh p) => .ok (.val p) Γ
    | _ => .no
  | d => .ok d Γ
/-- .. nor a new object -/
def fz (d : Opd) (Γ : Env) : Rs Opd :=
  match d with
  | .tmp o => .ok (.val o.pv) Γ
  | d => kp d Γ
def eK (f : ESem) : ESem := fun Γ => (f Γ).bind kp
def eZ (f : ESem) : ESem := fun Γ => (f Γ).bind fz

section
variable {L : Lx} {σ : L2.St} {H : Hp} {T R : List RS} {Γ : Env}
/-- slot i to the front, and changed -/
theorem zip_front {i : Nat} {v : Option V} {sl : Slot} (h1 : σ[i]? = some v) (h2 : Γ[i]? = some sl) : ∃ rs, (σ.zip Γ).Perm ((v, sl) :: rs) ∧ ∀ v' sl', ((σ.set i v').zip (Γ.set i sl')).Perm ((v', sl') :: rs) := by
  have hz : (σ.zip Γ)[i]? = some (v, sl) := by rw [List.getElem?_zip_eq_some]; exact ⟨h1, h2⟩
  obtain ⟨hi, he⟩ := List.getElem?_eq_some_iff.mp hz
  refine ⟨(σ.zip Γ).take i ++ (σ.zip Γ).drop (i + 1), ?_, fun v' sl' => ?_⟩
  · have e0 : σ.zip Γ = (σ.zip Γ).take i ++ (v, sl) :: (σ.zip Γ).drop (i + 1) := by
      rw [← he, List.getElem_cons_drop, List.take_append_drop]
    exact (List.Perm.of_eq e0).trans List.perm_middle
  · have e : (σ.set i v').zip (Γ.set i sl') = (σ.zip Γ).set i (v', sl') := by
      apply List.ext_getElem?
      intro j
      rw [List.getElem?_set]
      by_cases hj : i = j
      · subst hj
        rw [if_pos rfl, if_pos hi, List.getElem?_zip_eq_some]
        have hi1 : i < σ.length := (List.getElem?_eq_some_iff.mp h1).1
        have hi2 : i < Γ.length := (List.getElem?_eq_some_iff.mp h2).1
        exact ⟨List.getElem?_set_self hi1, List.getElem?_set_self hi2⟩
      · rw [if_neg hj]
        simp only [List.zip, List.getElem?_zipWith, List.getElem?_set_ne hj]
    rw [e, List.set_eq_take_append_cons_drop, if_pos hi]
    exact List.perm_middle
theorem set_self {i : Nat} {v : Option V} (h : σ[i]? = some v) : σ.set i v = σ := by
  obtain ⟨hi, e⟩ := List.getElem?_eq_some_iff.mp h
  rw [← e]; exact List.set_getElem_self hi
theorem slot_v {i : Nat} {sl : Slot} (hl : Γ.length = σ.length) (h : Γ[i]? = some sl) : ∃ v, σ[i]? = some v := by
  have : i < σ.length := by rw [← hl]; exact (List.getElem?_eq_some_iff.mp h).1
  exact ⟨_, List.getElem?_eq_getElem this⟩
/-- slot i's object is locked -/
theorem St.giveS {i : Nat} {o : OV} {v : V} (st : St L (σ.zip Γ ++ R) H) (h1 : σ[i]? = some (some v)) (h2 : Γ[i]? = some (.ow o)) :
    ∃ a u, v = .ref a ∧ H a = some u ∧ Mut (some u) ∧ ∀ od, St L (σ.zip (Γ.set i (.sh o.pv)) ++ R) (upd H a (.frz od u)) ∧ Rp L.X.K L.X.mg (upd H a (.frz od u)) o.pv v := by
  obtain ⟨rs, p1, p2⟩ := zip_front h1 h2
  have s1 : St L ((some v, .ow o) :: (rs ++ R)) H := st.perm (p1.append_right R)
  obtain ⟨a, e, q⟩ := s1.rel _ List.mem_cons_self
  cases e
  obtain ⟨u, eu, mu⟩ := q.mut
  refine ⟨a, u, rfl, eu, mu, fun od => ⟨?_, q.lock eu⟩⟩
  have s2 := St.give a o u od s1 eu
  have p3 := p2 (some (.ref a)) (.sh o.pv)
  rw [set_self h1] at p3
  exact s2.perm (p3.symm.append_right R)
theorem St.valS {i : Nat} {p : PV} {v : V} (st : St L (σ.zip Γ ++ R) H) (h1 : σ[i]? = some (some v)) (h2 : Γ[i]? = some (.sh p)) : Rp L.X.K L.X.mg H p v := by
  obtain ⟨x, e, q⟩ := st.rel (some v, .sh p) (List.mem_append_left _ (List.mem_of_getElem? (i := i) (by rw [List.getElem?_zip_eq_some]; exact ⟨h1, h2⟩)))
  cases e; exact q
theorem kp_go {d : Opd} {v : V} {Q : V → Hp → Prop} (hl : Γ.length = σ.length) (o : OpP L σ Γ T d v H) (h : Pst L σ T (kp d Γ) fun d Γ' => ∀ v H', OpP L σ Γ' T d v H' → Q v H') :
    Q v H ∨ ∃ a u, H a = some u ∧ Mut (some u) ∧ ∀ od, Q v (upd H a (.frz od u)) := by
  cases d with
  | val p => exact .inl (h hl v H o)
  | tmp p => exact .inl (h hl v H o)
  | plc i =>
    unfold kp at h
    have hv := o.pl i rfl
    cases e : Γ[i]? with
    | none => simp only [e] at h; exact h.elim
    | some sl =>
      simp only [e] at h
      cases sl with
      | un => exact h.elim
      | sh p => exact .inl (h hl v H ⟨(o.st.push_val (o.st.valS hv e)).perm List.perm_middle.symm, fun i z => nomatch z⟩)
      | ow ob =>
        obtain ⟨a, u, rfl, eu, mu, q⟩ := o.st.giveS hv e
        refine .inr ⟨a, u, eu, mu, fun od => ?_⟩
        obtain ⟨s2, r2⟩ := q od
        exact h (by rw [List.length_set]; exact hl) _ _ ⟨(s2.push_val r2).perm List.perm_middle.symm, fun i z => nomatch z⟩
theorem fz_go {d : Opd} {v : V} {Q : V → Hp → Prop} (hl : Γ.length = σ.length) (o : OpP L σ Γ T d v H) (h : Pst L σ T (fz d Γ) fun d Γ' => ∀ v H', OpP L σ Γ' T d v H' → Q v H') :
    Q v H ∨ ∃ a u, H a = some u ∧ Mut (some u) ∧ ∀ od, Q v (upd H a (.frz od u)) := by
  cases d with
  | val p => exact kp_go hl o h
  | plc i => exact kp_go hl o h
  | tmp ob =>
    have s1 : St L ((some v, .ow ob) :: (σ.zip Γ ++ T)) H := o.st.perm List.perm_middle
    obtain ⟨a, e, q⟩ := s1.rel _ List.mem_cons_self
    cases e
    obtain ⟨u, eu, mu⟩ := q.mut
    refine .inr ⟨a, u, eu, mu, fun od => ?_⟩
    exact h hl _ _ ⟨(St.give a ob u od s1 eu).perm List.perm_middle.symm, fun i z => nomatch z⟩
end
section
variable {L : Lx} {e : Expr} {f : ESem}
theorem e_k (h : PE L.X e (tE L f)) : PE L.X e (tE L (eK f)) := peI (pe_give h) fun σ H Q q => by
  obtain ⟨Γ, T, hl, st, q⟩ := q
  exact tE_bind hl (List.Sublist.refl T) st q fun d Γ1 x H1 hl1 o1 h1 => kp_go hl1 o1 h1
theorem e_z (h : PE L.X e (tE L f)) : PE L.X e (tE L (eZ f)) := peI (pe_give h) fun σ H Q q => by
  obtain ⟨Γ, T, hl, st, q⟩ := q
  exact tE_bind hl (List.Sublist.refl T) st q fun d Γ1 x H1 hl1 o1 h1 => fz_go hl1 o1 h1
end

/-! ### statements -/
def bindS (i : Nat) (d : Opd) (Γ : Env) : Fl :=
  match d with
  | .val p => .nx (Γ.set i (.sh p))
  | .tmp o => .nx (Γ.set i (.ow o))
  | .plc j =>
    match Γ[j]? with
    | some (.ow o) => .nx ((Γ.set j .un).set i (.ow o))
    | some (.sh p) => .nx (Γ.set i (.sh p))
    | _ => .no
def asgS (i : Nat) (f : ESem) : SSem := fun Γ => (f Γ).fl (bindS i)
def seqS (s1 s2 : SSem) : SSem := fun Γ => (s1 Γ).seq s2
def skipS : SSem := fun Γ => .nx Γ
def retS (f : ESem) : SSem := fun Γ => (f Γ).fl .rt
def dropS (f : ESem) : SSem := fun Γ => (f Γ).fl fun _ Γ' => .nx Γ'
def ifS (c : TSem) (s1 s2 : SSem) : SSem := fun Γ => (c Γ).fl fun b Γ' => if b then s1 Γ' else s2 Γ'
def brkS : SSem := fun Γ => .bk Γ
def cntS : SSem := fun Γ => .ct Γ
/-- slots forgotten -/
def kill (ks : List Nat) (Γ : Env) : Env := ks.foldl (fun Γ i => Γ.set i .un) Γ
theorem kill_len (ks : List Nat) : ∀ Γ : Env, (kill ks Γ).length = Γ.length := by
  induction ks with
  | nil => intro Γ; rfl
  | cons k ks ih => intro Γ; show (kill ks (Γ.set k .un)).length = _; rw [ih, List.length_set]
theorem St.killS {L : Lx} {σ : L2.St} {R : List RS} {H : Hp} (ks : List Nat) : ∀ {Γ : Env}, Γ.length = σ.length → St L (σ.zip Γ ++ R) H → St L (σ.zip (kill ks Γ) ++ R) H := by
  induction ks with
  | nil => intro Γ _ h; exact h
  | cons k ks ih =>
    intro Γ hl h
    refine ih (by rw [List.length_set]; exact hl) ?_
    cases e : Γ[k]? with
    | none =>
      have hk : Γ.length ≤ k := List.getElem?_eq_none_iff.mp e
      show St L (σ.zip (Γ.set k .un) ++ R) H
      rw [List.set_eq_of_length_le hk]; exact h
    | some sl =>
      obtain ⟨v, hv⟩ := slot_v hl e
      obtain ⟨rs, p1, p2⟩ := zip_front hv e
      have p3 := p2 v .un
      rw [set_self hv] at p3
      have s1 : St L ((v, sl) :: (rs ++ R)) H := h.perm (p1.append_right R)
      exact (s1.tail.push_un).perm (p3.symm.append_right R)

section
variable {L : Lx} {pos : Pos}
theorem St.setS {σ : L2.St} {R : List RS} {H : Hp} {Γ : Env} {i : Nat} {v : V} {sl sl0 : Slot} (hl : Γ.length = σ.length) (e : Γ[i]? = some sl0) (st : St L ((some v, sl) :: (σ.zip Γ ++ R)) H) : St L ((σ.set i (some v)).zip (Γ.set i sl) ++ R) H := by
  obtain ⟨v0, hv⟩ := slot_v hl e
  obtain ⟨rs, p1, p2⟩ := zip_front hv e
  have s1 : St L ((some v, sl) :: (v0, sl0) :: (rs ++ R)) H := st.perm ((p1.append_right R).cons _)
  have s2 : St L ((some v, sl) :: (rs ++ R)) H := s1.sub ((List.sublist_cons_self _ _).cons_cons _)
  exact s2.perm ((p2 (some v) sl).symm.append_right R)
/-- an own object leaves its slot -/
theorem St.takeS {σ : L2.St} {R : List RS} {H : Hp} {Γ : Env} {j : Nat} {v : V} {o : OV} (hv : σ[j]? = some (some v)) (e : Γ[j]? = some (.ow o)) (st : St L (σ.zip Γ ++ R) H) : St L ((some v, .ow o) :: (σ.zip (Γ.set j .un) ++ R)) H := by
  obtain ⟨rs, p1, p2⟩ := zip_front hv e
  have p3 := p2 (some v) .un
  rw [set_self hv] at p3
  have s1 : St L ((some v, .ow o) :: (rs ++ R)) H := st.perm (p1.append_right R)
  have s2 : St L ((some v, .un) :: (some v, .ow o) :: (rs ++ R)) H := s1.push_un
  exact (s2.perm (List.Perm.swap _ _ _)).perm (((p3.symm.append_right R)).cons _)
theorem Pin.set {σ : L2.St} (h : Pin L σ) {i : Nat} {v : Option V} (hi : i ∉ L.M.map (·.1)) : Pin L (σ.set i v) := fun p hp => by
  rw [List.getElem?_set_ne (fun z : i = p.1 => hi (by rw [z]; exact List.mem_map_of_mem hp))]
  exact h p hp
theorem bind_go {σ : L2.St} {T : List RS} {Γ : Env} {D : Ends} {i : Nat} {d : Opd} {v : V} {H : Hp} (hi : i ∉ L.M.map (·.1)) (hx : i < Γ.length) (hl : Γ.length = σ.length) (hp : Pin L σ) (o : OpP L σ Γ T d v H) (h : PstS L σ.length T (bindS i d Γ) D) :
    gName i v σ H D.nx := by
  have e := List.getElem?_eq_getElem hx
  cases d with
  | plc j =>
    unfold bindS at h
    have hv := o.pl j rfl
    cases ej : Γ[j]? with
    | none => simp only [ej] at h; exact h.elim
    | some sl =>
      simp only [ej] at h
      cases sl with
      | un => exact h.elim
      | sh p => exact h (σ.set i (some v)) H (by simpa using hl) (by simp) (hp.set hi) (St.setS hl e (o.st.push_val (o.st.valS hv ej)))
      | ow ob => exact h (σ.set i (some v)) H (by simpa using hl) (by simp) (hp.set hi) (St.setS (by rw [List.length_set]; exact hl) (List.getElem?_eq_getElem (by rw [List.length_set]; exact hx)) (o.st.takeS hv ej))
  | val p => exact h (σ.set i (some v)) H (by simpa using hl) (by simp) (hp.set hi) (St.setS hl e (o.st.perm List.perm_middle))
  | tmp p => exact h (σ.set i (some v)) H (by simpa using hl) (by simp) (hp.set hi) (St.setS hl e (o.st.perm List.perm_middle))
theorem s_asg {f : ESem} {st : Stmt} {i : Nat} (hs : PS L.X st (tAsg (tE L f) (gName i))) (hi : i ∉ L.M.map (·.1)) (hx : i < L.X.N.length) : PS L.X st (tS L (asgS i f)) := by
  refine ⟨fun pins s σ H D I q => hs.run pins s σ H D I ?_⟩
  obtain ⟨Γ, T, hl, hp, st, q⟩ := q
  have hxi : i < σ.length := by rw [I.len]; exact hx
  exact tE_fl hl hp (List.Sublist.refl T) st q fun d Γ1 x H1 hl1 o1 h1 => bind_go hi (by rw [hl1]; exact hxi) hl1 hp o1 h1
theorem s_ret {f : ESem} {e : Expr} (h : PE L.X e (tE L f)) : PS L.X (.Return (some e) pos) (tS L (retS f)) := psI (ps_ret h) fun D σ H q => by
  obtain ⟨Γ, T, hl, hp, st, q⟩ := q
  exact tE_fl hl hp (List.Sublist.refl T) st q fun d Γ1 x H1 hl1 o1 h1 => h1 x σ H1 hl1 rfl hp o1
theorem s_retN : PS L.X (.Return none pos) (tS L (retS (eC .non))) := psI ps_retN fun D σ H q => by
  obtain ⟨Γ, T, hl, hp, st, q⟩ := q
  exact q .non σ H hl rfl hp ⟨(st.push_val (p := .non) (v := .non) rfl).perm List.perm_middle.symm, fun i z => nomatch z⟩
theorem s_expr {f : ESem} {e : Expr} (h : PE L.X e (tE L f)) (hs : swapsWith e none pos.line L.X.env = pure false) : PS L.X (.Expr e pos) (tS L (dropS f)) := psI (ps_expr h hs) fun D σ H q => by
  obtain ⟨Γ, T, hl, hp, st, q⟩ := q
  exact tE_fl hl hp (List.Sublist.refl T) st q fun d Γ1 x H1 hl1 o1 h1 => h1 σ H1 hl1 rfl hp (o1.st.sub (List.Sublist.append (List.Sublist.refl _) (psh_sub _ _ _)))
theorem s_pass : PS L.X (.Pass pos) (tS L skipS) := psI ps_pass fun D σ H q => by
  obtain ⟨Γ, T, hl, hp, st, q⟩ := q
  exact q σ H hl rfl hp st
theorem s_brk : PS L.X (.Break pos) (tS L brkS) := psI ps_break fun D σ H q => by
  obtain ⟨Γ, T, hl, hp, st, q⟩ := q
  exact q σ H hl rfl hp st
theorem s_cnt : PS L.X (.Continue pos) (tS L cntS) := psI ps_continue fun D σ H q => by
  obtain ⟨Γ, T, hl, hp, st, q⟩ := q
  exact q σ H hl rfl hp st
theorem ss_nil : PSs L.X [] (tS L skipS) := pssI pss_nil fun D σ H q => by
  obtain ⟨Γ, T, hl, hp, st, q⟩ := q
  exact q σ H hl rfl hp st
theorem ss_one {st : Stmt} {f : SSem} (h : PS L.X st (tS L f)) : PSs L.X [st] (tS L f) := pss_one h
theorem ss_cons {st : Stmt} {rest : List Stmt} {f g : SSem} (h1 : PS L.X st (tS L f)) (h2 : PSs L.X rest (tS L g)) : PSs L.X (st :: rest) (tS L (seqS f g)) := pssI (pss_cons h1 h2) fun D σ H q => by
  obtain ⟨Γ, T, hl, hp, st, q⟩ := q
  refine ⟨Γ, T, hl, hp, st, ?_⟩
  unfold seqS at q
  cases e : f Γ with
  | nx Γ' =>
    rw [e] at q
    exact fun σ' H' h1 h2 h3 h4 => ⟨Γ', T, h1.trans h2.symm, h3, h4, by rw [h2]; exact q⟩
  | rt d Γ' => rw [e] at q; exact q
  | bk Γ' => rw [e] at q; exact q
  | ct Γ' => rw [e] at q; exact q
  | ex x Γ' => rw [e] at q; exact q
  | no => rw [e] at q; exact q
theorem s_if {c : Expr} {a b : List Stmt} {tc : TSem} {f g : SSem} (hc : PT L.X c (tT L tc)) (ha : PSs L.X a (tS L f)) (hb : PSs L.X b (tS L g)) : PS L.X (.If c a b pos) (tS L (ifS tc f g)) := psI (ps_if hc ha hb) fun D σ H q => by
  obtain ⟨Γ, T, hl, hp, st, q⟩ := q
  refine tT_fl hl hp (List.Sublist.refl T) st q fun d Γ1 H1 hl1 o1 h1 => ?_
  cases d with
  | true => exact ⟨Γ1, T, hl1, hp, o1, h1⟩
  | false => exact ⟨Γ1, T, hl1, hp, o1, h1⟩
/-- a value of a kind that is a truth, as a test -/
def tV (f : ESem) : TSem := fun Γ => (f Γ).bind fun d Γ' => match vw Γ' d with
  | some (.bl b) => .ok b Γ'
  | _ => .no
theorem t_val {f : ESem} {e : Expr} (h : PE L.X e (tE L f)) (he : ∀ whole, isTrue e L.X.env whole = (do let v ← whole; standAt e.pos; holding [v] (truthy v))) : PT L.X e (tT L (tV f)) := ptI (pt_val h he) fun σ H Q q => by
  obtain ⟨Γ, T, hl, st, q⟩ := q
  refine tE_bind hl (List.Sublist.refl T) st q fun d Γ1 x H1 hl1 o1 h1 => ?_
  cases e : vw Γ1 d with
  | none => simp only [e] at h1; exact h1.elim
  | some p =>
    simp only [e] at h1
    cases p with
    | bl b => exact ⟨b, rv_bl (view_of o1.st o1.has e), h1 hl1 H1 (o1.st.sub (List.Sublist.append (List.Sublist.refl _) (psh_sub _ _ _)))⟩
    | _ => exact h1.elim
def tNotS (f : TSem) : TSem := fun Γ => (f Γ).bind fun b Γ' => .ok (!b) Γ'
def tAndS (f g : TSem) : TSem := fun Γ => (f Γ).bind fun b Γ' => if b then g Γ' else .ok false Γ'
def tOrS (f g : TSem) : TSem := fun Γ => (f Γ).bind fun b Γ' => if b then .ok true Γ' else g Γ'
theorem t_not {a : Expr} {f : TSem} (h : PT L.X a (tT L f)) : PT L.X (.UnaryOp .Not a pos) (tT L (tNotS f)) := ptI (pt_not h) fun σ H Q q => by
  obtain ⟨Γ, T, hl, st, q⟩ := q
  exact tT_bind hl (List.Sublist.refl T) st q fun d Γ1 H1 hl1 o1 h1 => h1 hl1 H1 o1
theorem pwI {X : Cx} {e : Expr} {t t' : TT} (h : PW X e t) (i : ∀ σ H Q, t' σ H Q → t σ H Q) : PW X e t' :=
  ⟨fun wh pins s σ H Q I q => h.run wh pins s σ H Q I (i σ H Q q)⟩
theorem w_and1 {a : Expr} {f : TSem} (h : PT L.X a (tT L f)) : PW L.X (.BoolOp .And [a] pos) (tT L f) := pw_and1 h
theorem w_or1 {a : Expr} {f : TSem} (h : PT L.X a (tT L f)) : PW L.X (.BoolOp .Or [a] pos) (tT L f) := pw_or1 h
theorem w_and {a b : Expr} {rest : List Expr} {f g : TSem} (ha : PT L.X a (tT L f)) (hb : PW L.X (.BoolOp .And (b :: rest) pos) (tT L g)) : PW L.X (.BoolOp .And (a :: b :: rest) pos) (tT L (tAndS f g)) := pwI (pw_and ha hb) fun σ H Q q => by
  obtain ⟨Γ, T, hl, st, q⟩ := q
  refine tT_bind hl (List.Sublist.refl T) st q fun d Γ1 H1 hl1 o1 h1 => ?_
  cases d with
  | true => exact ⟨Γ1, T, hl1, o1, h1⟩
  | false => exact h1 hl1 H1 o1
theorem w_or {a b : Expr} {rest : List Expr} {f g : TSem} (ha : PT L.X a (tT L f)) (hb : PW L.X (.BoolOp .Or (b :: rest) pos) (tT L g)) : PW L.X (.BoolOp .Or (a :: b :: rest) pos) (tT L (tOrS f g)) := pwI (pw_or ha hb) fun σ H Q q => by
  obtain ⟨Γ, T, hl, st, q⟩ := q
  refine tT_bind hl (List.Sublist.refl T) st q fun d Γ1 H1 hl1 o1 h1 => ?_
  cases d with
  | false => exact ⟨Γ1, T, hl1, o1, h1⟩
  | true => exact h1 hl1 H1 o1
def eAndS (f g : ESem) : ESem := fun Γ => (f Γ).bind fun d Γ' => match vw Γ' d with
  | some (.bl b) => if b then g Γ' else .ok (.val (.bl false)) Γ'
  | _ => .no
def eOrS (f g : ESem) : ESem := fun Γ => (f Γ).bind fun d Γ' => match vw Γ' d with
  | some (.bl b) => if b then .ok (.val (.bl true)) Γ' else g Γ'
  | _ => .no
def eNotS (f : ESem) : ESem := fun Γ => (f Γ).bind fun d Γ' => match vw Γ' d with
  | some (.bl b) => .ok (.val (.bl (!b))) Γ'
  | _ => .no
def eIfS (t : TSem) (f g : ESem) : ESem := fun Γ => (t Γ).bind fun b Γ' => if b then f Γ' else g Γ'
theorem e_one {a : Expr} {op} {f : ESem} (h : PE L.X a (tE L f)) : PE L.X (.BoolOp op [a] pos) (tE L f) := pe_one h
theorem OpP.back {σ : L2.St} {Γ : Env} {T : List RS} {d : Opd} {v : V} {H : Hp} (o : OpP L σ Γ T d v H) : St L (σ.zip Γ ++ T) H := o.st.sub (List.Sublist.append (List.Sublist.refl _) (psh_sub _ _ _))
theorem OpP.mk_val {σ : L2.St} {Γ : Env} {T : List RS} {p : PV} {v : V} {H : Hp} (st : St L (σ.zip Γ ++ T) H) (h : Rp L.X.K L.X.mg H p v) : OpP L σ Γ T (.val p) v H := ⟨(st.push_val h).perm List.perm_middle.symm, fun i z => nomatch z⟩
theorem e_and {a b : Expr} {rest : List Expr} {f g : ESem} (ha : PE L.X a (tE L f)) (hb : PE L.X (.BoolOp .And (b :: rest) pos) (tE L g)) : PE L.X (.BoolOp .And (a :: b :: rest) pos) (tE L (eAndS f g)) := peI (pe_and ha hb) fun σ H Q q => by
  obtain ⟨Γ, T, hl, st, q⟩ := q
  refine tE_bind hl (List.Sublist.refl T) st q fun d Γ1 x H1 hl1 o1 h1 => ?_
  cases e : vw Γ1 d with
  | none => simp only [e] at h1; exact h1.elim
  | some p =>
    simp only [e] at h1
    cases p with
    | bl b =>
      refine ⟨b, rv_bl (view_of o1.st o1.has e), ?_⟩
      cases b with
      | true => exact ⟨Γ1, T, hl1, o1.back, h1⟩
      | false => exact h1 hl1 _ _ (.mk_val o1.back rfl)
    | _ => exact h1.elim
theorem e_or {a b : Expr} {rest : List Expr} {f g : ESem} (ha : PE L.X a (tE L f)) (hb : PE L.X (.BoolOp .Or (b :: rest) pos) (tE L g)) : PE L.X (.BoolOp .Or (a :: b :: rest) pos) (tE L (eOrS f g)) := peI (pe_or ha hb) fun σ H Q q => by
  obtain ⟨Γ, T, hl, st, q⟩ := q
  refine tE_bind hl (List.Sublist.refl T) st q fun d Γ1 x H1 hl1 o1 h1 => ?_
  cases e : vw Γ1 d with
  | none => simp only [e] at h1; exact h1.elim
  | some p =>
    simp only [e] at h1
    cases p with
    | bl b =>
      refine ⟨b, rv_bl (view_of o1.st o1.has e), ?_⟩
      cases b with
      | false => exact ⟨Γ1, T, hl1, o1.back, h1⟩
      | true => exact h1 hl1 _ _ (.mk_val o1.back rfl)
    | _ => exact h1.elim
theorem e_not {a : Expr} {f : ESem} (ha : PE L.X a (tE L f)) : PE L.X (.UnaryOp .Not a pos) (tE L (eNotS f)) := peI (pe_not ha) fun σ H Q q => by
  obtain ⟨Γ, T, hl, st, q⟩ := q
  refine tE_bind hl (List.Sublist.refl T) st q fun d Γ1 x H1 hl1 o1 h1 => ?_
  cases e : vw Γ1 d with
  | none => simp only [e] at h1; exact h1.elim
  | some p =>
    simp only [e] at h1
    cases p with
    | bl b => exact ⟨b, rv_bl (view_of o1.st o1.has e), h1 hl1 _ _ (.mk_val o1.back rfl)⟩
    | _ => exact h1.elim
theorem e_if {c a b : Expr} {tc : TSem} {f g : ESem} (hc : PT L.X c (tT L tc)) (ha : PE L.X a (tE L f)) (hb : PE L.X b (tE L g)) : PE L.X (.IfExp c a b pos) (tE L (eIfS tc f g)) := peI (pe_ifExp hc ha hb) fun σ H Q q => by
  obtain ⟨Γ, T, hl, st, q⟩ := q
  refine tT_bind hl (List.Sublist.refl T) st q fun d Γ1 H1 hl1 o1 h1 => ?_
  cases d with
  | true => exact ⟨Γ1, T, hl1, o1, h1⟩
  | false => exact ⟨Γ1, T, hl1, o1, h1⟩
end
end Mv
end S3_

section S4_
set_option Elab.async false
set_option linter.all false
set_option maxRecDepth 100000
namespace Mv
open PySem PySem.Spec PyProof.Rows L2

/-! ### targets of loops -/
abbrev GSem := PV → Env → Option Env
def tG (L : Lx) (t : GSem) : TG := fun v σ H Q => ∃ Γ R p, Γ.length = σ.length ∧ Pin L σ ∧ St L ((some v, .sh p) :: (σ.zip Γ ++ R)) H ∧ ∃ Γ', t p Γ = some Γ' ∧
  ∀ σ' H', Γ'.length = σ.length → σ'.length = σ.length → Pin L σ' → St L (σ'.zip Γ' ++ R) H' → Q σ' H'
def tGs (L : Lx) (t : List PV → Env → Option Env) : TGs := fun vs σ H Q => ∃ Γ R ps, Γ.length = σ.length ∧ Pin L σ ∧ RpA L.X.K L.X.mg H ps vs ∧ St L (σ.zip Γ ++ R) H ∧ ∃ Γ', t ps Γ = some Γ' ∧
  ∀ σ' H', Γ'.length = σ.length → σ'.length = σ.length → Pin L σ' → St L (σ'.zip Γ' ++ R) H' → Q σ' H'
theorem pgI {X : Cx} {e : Expr} {t t' : TG} (h : PG X e t) (i : ∀ v σ H Q, t' v σ H Q → t v σ H Q) : PG X e t' :=
  ⟨fun pins s σ H v u Q I r q => h.run pins s σ H v u Q I r (i v σ H Q q)⟩
theorem pgsI {X : Cx} {e : List Expr} {t t' : TGs} (h : PGs X e t) (i : ∀ v σ H Q, t' v σ H Q → t v σ H Q) : PGs X e t' :=
  ⟨fun pins s σ H v u Q I r q => h.run pins s σ H v u Q I r (i v σ H Q q)⟩
def gN (i : Nat) : GSem := fun p Γ => if i < Γ.length then some (Γ.set i (.sh p)) else none
def gT (t : List PV → Env → Option Env) : GSem := fun p Γ =>
  match p with
  | .tup ps => t ps Γ
  | _ => none
def gs0 : List PV → Env → Option Env := fun ps Γ => match ps with | [] => some Γ | _ => none
def gs1 (t : GSem) (u : List PV → Env → Option Env) : List PV → Env → Option Env := fun ps Γ =>
  match ps with
  | [] => none
  | p :: r => (t p Γ).bind (u r)
section
variable {L : Lx} {pos : Pos}
theorem g_n {e : Expr} {i : Nat} (h : PG L.X e (gName i)) (hi : i ∉ L.M.map (·.1)) : PG L.X e (tG L (gN i)) := pgI h fun v σ H Q q => by
  obtain ⟨Γ, R, p, hl, hp, st, Γ', e1, q⟩ := q
  unfold gN at e1
  split at e1
  · rename_i hx
    cases e1
    exact q _ _ (by simpa using hl) (by simp) (hp.set hi) (St.setS hl (List.getElem?_eq_getElem hx) st)
  · cases e1
theorem RpA.len {K : PySem.W.Frag} {mg : Str → Option Value} {H : Hp} : ∀ {ps : List PV} {xs : List V}, RpA K mg H ps xs → xs.length = ps.length
  | [], xs, h => by rw [show xs = [] from h]; rfl
  | p :: ps, xs, h => by
    obtain ⟨x, r, e, _, h2⟩ := h
    rw [e, List.length_cons, List.length_cons, RpA.len h2]
theorem gs_nil : PGs L.X [] (tGs L gs0) := pgsI pgs_nil fun vs σ H Q q => by
  obtain ⟨Γ, R, ps, hl, hp, hr, st, Γ', e1, q⟩ := q
  cases ps with
  | cons p ps => cases e1
  | nil =>
    cases e1
    exact ⟨hr, q σ H hl rfl hp st⟩
theorem gs_cons {e : Expr} {es : List Expr} {t : GSem} {u : List PV → Env → Option Env} (h1 : PG L.X e (tG L t)) (h2 : PGs L.X es (tGs L u))
    (hs : (assignEach (e :: es) L.X.env).map (·.2) = assign e L.X.env :: (assignEach es L.X.env).map (·.2)) : PGs L.X (e :: es) (tGs L (gs1 t u)) := pgsI (pgs_cons h1 h2 hs) fun vs σ H Q q => by
  obtain ⟨Γ, R, ps, hl, hp, hr, st, Γ', e1, q⟩ := q
  cases ps with
  | nil => cases e1
  | cons p ps =>
    obtain ⟨x, r, e2, r1, r2⟩ := hr
    have e1 : (t p Γ).bind (u ps) = some Γ' := e1
    cases e3 : t p Γ with
    | none => rw [e3] at e1; cases e1
    | some Γ1 =>
      rw [e3] at e1
      -- the rest's values wait in flight, as a tuple's items would
      refine ⟨x, r, e2, Γ, (ps.zip r).map (fun z => (some z.2, Slot.sh z.1)) ++ R, p, hl, hp, ?_, Γ1, e3, fun σ1 H1 hl1 hσ1 hp1 st1 => ?_⟩
      · refine St.push_val ?_ r1
        have all : ∀ (ps : List PV) (r : List V), RpA L.X.K L.X.mg H ps r → St L ((ps.zip r).map (fun z => (some z.2, Slot.sh z.1)) ++ (σ.zip Γ ++ R)) H := by
          intro ps
          induction ps with
          | nil => intro r _; exact st
          | cons p ps ih =>
            intro r hr
            obtain ⟨x, r', e, r1, r2⟩ := hr
            subst e
            exact (ih r' r2).push_val r1
        refine (all ps r r2).perm ?_
        rw [← List.append_assoc, ← List.append_assoc]
        exact (List.perm_append_comm).append_right R
      · have back : ∀ (ps : List PV) (r : List V), r.length = ps.length → (∀ z ∈ (ps.zip r).map (fun z => ((some z.2, Slot.sh z.1) : RS)), RelS L.X.K L.X.mg H1 z) → RpA L.X.K L.X.mg H1 ps r := by
          intro ps
          induction ps with
          | nil => intro r hr _; exact List.length_eq_zero_iff.mp hr
          | cons p ps ih =>
            intro r hr hz
            cases r with
            | nil => cases hr
            | cons y r =>
              obtain ⟨w, ew, qw⟩ := hz (some y, Slot.sh p) List.mem_cons_self
              cases ew
              exact ⟨y, r, rfl, qw, ih r (by simpa using hr) fun z hz' => hz z (List.mem_cons_of_mem _ hz')⟩
        refine ⟨Γ1, R, ps, hl1.trans hσ1.symm, hp1, back ps r (r2.len) (fun z hz => st1.rel z (List.mem_append_right _ (List.mem_append_left _ hz))), st1.sub (List.Sublist.append (List.Sublist.refl _) (List.sublist_append_right _ _)), Γ', e1, fun σ2 H2 a b c d => q σ2 H2 (a.trans hσ1) (b.trans hσ1) c d⟩
theorem g_tup {es : List Expr} {k n : Nat} {t : List PV → Env → Option Env} (hc : L.X.calm = true) (h : PGs L.X es (tGs L t)) (hn : (assignEach es L.X.env).length = n) (hst : (assignEach es L.X.env).findIdx? (·.1) = none)
    (ht : ∀ ps Γ Γ', t ps Γ = some Γ' → ps.length = n) : PG L.X (.Tuple es k pos) (tG L (gT t)) := pgI (pg_tup hc h hn hst) fun v σ H Q q => by
  obtain ⟨Γ, R, p, hl, hp, st, Γ', e1, q⟩ := q
  cases p with
  | tup ps =>
    have e1 : t ps Γ = some Γ' := e1
    obtain ⟨x, e2, a, xs, e3, hs, hr⟩ := st.rel _ List.mem_cons_self
    cases e2
    exact ⟨a, xs, e3, hs, by rw [hr.len]; exact ht ps Γ Γ' e1, Γ, R, ps, hl, hp, hr, st.tail, Γ', e1, q⟩
  | _ => cases e1
end
theorem gs0_len : ∀ (ps : List PV) (Γ Γ' : Env), gs0 ps Γ = some Γ' → ps.length = 0 := fun ps Γ Γ' h => by
  cases ps with
  | nil => rfl
  | cons p r => cases h
theorem gs1_len {t : GSem} {u : List PV → Env → Option Env} {n : Nat} (hu : ∀ ps Γ Γ', u ps Γ = some Γ' → ps.length = n) : ∀ (ps : List PV) (Γ Γ' : Env), gs1 t u ps Γ = some Γ' → ps.length = n + 1 := fun ps Γ Γ' h => by
  cases ps with
  | nil => cases h
  | cons p r =>
    have h : (t p Γ).bind (u r) = some Γ' := h
    cases e : t p Γ with
    | none => rw [e] at h; cases h
    | some Γ1 => rw [e] at h; rw [List.length_cons, hu r Γ1 Γ' h]

/-! ### what is walked -/
/-- the iterator J goes through the values ps, as long as the resources T stand -/
structure ItOk (K : PySem.W.Frag) (mg : Str → Option Value) (T : List RS) (J : It) (ps : List PV) : Prop where
  go : ∀ H, (∀ r ∈ T, RelS K mg H r) → ∀ i p, ps[i]? = some p → J.go i H ∧ ∀ x H', J.yld i H x H' → (H' = H ∨ ∃ a o, H a = none ∧ H' = upd H a o) ∧ Rp K mg H' p x
  stop : ∀ H, (∀ r ∈ T, RelS K mg H r) → J.stop ps.length H
abbrev ISem := Env → Rs (List PV)
def tI (L : Lx) (f : ISem) : TI := fun σ H R => ∃ Γ T, Γ.length = σ.length ∧ St L (σ.zip Γ ++ T) H ∧
  Pst L σ T (f Γ) fun ps Γ' => ∀ J H' T', T.Sublist T' → St L (σ.zip Γ' ++ T') H' → ItOk L.X.K L.X.mg T' J ps → R J H'
theorem piI {X : Cx} {tg e : Expr} {t t' : TI} (h : PI X tg e t) (i : ∀ σ H R, t' σ H R → t σ H R) : PI X tg e t' :=
  ⟨fun pins s σ H R I q => h.run pins s σ H R I (i σ H R q)⟩

section
variable {L : Lx} {tg e : Expr} {pos : Pos}
theorem RpA.get {K : PySem.W.Frag} {mg : Str → Option Value} {H : Hp} : ∀ {ps : List PV} {xs : List V} {i : Nat} {p : PV}, RpA K mg H ps xs → ps[i]? = some p → ∃ x, xs[i]? = some x ∧ Rp K mg H p x
  | [], xs, i, p, h, e => by simp at e
  | q :: ps, xs, i, p, h, e => by
    obtain ⟨x, r, e1, h1, h2⟩ := h
    subst e1
    cases i with
    | zero => simp at e; subst e; exact ⟨x, rfl, h1⟩
    | succ i => obtain ⟨y, e2, q⟩ := RpA.get (i := i) h2 (by simpa using e); exact ⟨y, by simpa using e2, q⟩
/-- a list or a tuple -/
def iSeq (f : ESem) : ISem := fun Γ => (eZ f Γ).bind fun d Γ' => match d with
  | .val (.lst ps) => .ok ps Γ'
  | .val (.tup ps) => .ok ps Γ'
  | _ => .no
theorem it_lst {K : PySem.W.Frag} {mg : Str → Option Value} {T : List RS} {ps : List PV} {a : Addr} (h : (some (.ref a), Slot.sh (.lst ps)) ∈ T) : ItOk K mg T (Itl K a) ps := by
  refine ⟨fun H hT i p e => ?_, fun H hT => ?_⟩
  · obtain ⟨x, e1, b, xs, e2, hq, hr⟩ := hT _ h
    cases e1; cases e2
    obtain ⟨x, ex, rx⟩ := hr.get e
    refine ⟨⟨xs, x, hq.sq, ex⟩, fun y H' hy => ?_⟩
    obtain ⟨rfl, hy⟩ := hy
    have := hy xs hq.sq
    rw [ex] at this; cases this
    exact ⟨.inl rfl, rx⟩
  · obtain ⟨x, e1, b, xs, e2, hq, hr⟩ := hT _ h
    cases e1; cases e2
    exact ⟨xs, hq.sq, by rw [hr.len]; exact Nat.le_refl _⟩
theorem it_tup {K : PySem.W.Frag} {mg : Str → Option Value} {T : List RS} {ps : List PV} {a : Addr} (h : (some (.ref a), Slot.sh (.tup ps)) ∈ T) : ItOk K mg T (Itt K a) ps := by
  refine ⟨fun H hT i p e => ?_, fun H hT => ?_⟩
  · obtain ⟨x, e1, b, xs, e2, hq, hr⟩ := hT _ h
    cases e1; cases e2
    obtain ⟨x, ex, rx⟩ := hr.get e
    refine ⟨⟨xs, x, hq, ex⟩, fun y H' hy => ?_⟩
    obtain ⟨rfl, hy⟩ := hy
    have := hy xs hq
    rw [ex] at this; cases this
    exact ⟨.inl rfl, rx⟩
  · obtain ⟨x, e1, b, xs, e2, hq, hr⟩ := hT _ h
    cases e1; cases e2
    exact ⟨xs, hq, by rw [hr.len]; exact Nat.le_refl _⟩
/-- walks of a list or a tuple: which of both is told -/
def iLst (f : ESem) : ISem := fun Γ => (eZ f Γ).bind fun d Γ' => match d with
  | .val (.lst ps) => .ok ps Γ'
  | _ => .no
def iTupS (f : ESem) : ISem := fun Γ => (eZ f Γ).bind fun d Γ' => match d with
  | .val (.tup ps) => .ok ps Γ'
  | _ => .no
theorem i_lst {f : ESem} (h : PE L.X e (tE L f)) : PI L.X tg e (tI L (iLst f)) := piI (pi_list (e_z h)) fun σ H R q => by
  obtain ⟨Γ, T, hl, st, q⟩ := q
  refine tE_bind hl (List.Sublist.refl T) st q fun d Γ1 x H1 hl1 o1 h1 => ?_
  cases d with
  | val p =>
    cases p with
    | lst ps =>
      obtain ⟨y, ey, a, xs, ea, hq, hr⟩ := o1.st.rel (some x, .sh (.lst ps)) (List.mem_append_right _ List.mem_cons_self)
      cases ey
      subst ea
      exact ⟨a, rfl, ⟨xs, hq.sq⟩, h1 hl1 _ _ _ (psh_sub _ _ _) o1.st (it_lst List.mem_cons_self)⟩
    | _ => exact h1.elim
  | _ => exact h1.elim
theorem i_tup {f : ESem} (h : PE L.X e (tE L f)) : PI L.X tg e (tI L (iTupS f)) := piI (pi_tup (e_z h)) fun σ H R q => by
  obtain ⟨Γ, T, hl, st, q⟩ := q
  refine tE_bind hl (List.Sublist.refl T) st q fun d Γ1 x H1 hl1 o1 h1 => ?_
  cases d with
  | val p =>
    cases p with
    | tup ps =>
      obtain ⟨y, ey, a, xs, ea, hq, hr⟩ := o1.st.rel (some x, .sh (.tup ps)) (List.mem_append_right _ List.mem_cons_self)
      cases ey
      subst ea
      exact ⟨a, rfl, ⟨xs, hq⟩, h1 hl1 _ _ _ (psh_sub _ _ _) o1.st (it_tup List.mem_cons_self)⟩
    | _ => exact h1.elim
  | _ => exact h1.elim
end

/-! ### for -/
def loopL (tg : GSem) (kl : List Nat) (body : SSem) : List PV → Env → Fl
  | [], Γ => .nx Γ
  | p :: ps, Γ =>
    match tg p Γ with
    | none => .no
    | some Γ1 =>
      match body Γ1 with
      | .nx Γ2 => loopL tg kl body ps (kill kl Γ2)
      | .ct Γ2 => loopL tg kl body ps (kill kl Γ2)
      | .bk Γ2 => .nx (kill kl Γ2)
      | r => r
def forS (it : ISem) (tg : GSem) (kl : List Nat) (body : SSem) : SSem := fun Γ => (it Γ).fl fun ps Γ' => loopL tg kl body ps Γ'
section
variable {L : Lx} {pos : Pos}
theorem tI_fl {σ : L2.St} {H : Hp} {T : List RS} {Γ : Env} {D : Ends} {f : ISem} {k : List PV → Env → Fl} {R : It → Hp → Prop} (hl : Γ.length = σ.length) (hp : Pin L σ) (st : St L (σ.zip Γ ++ T) H) (h : PstS L σ.length T ((f Γ).fl k) D)
    (hR : ∀ ps Γ' J H' T', Γ'.length = σ.length → T.Sublist T' → St L (σ.zip Γ' ++ T') H' → ItOk L.X.K L.X.mg T' J ps → PstS L σ.length T (k ps Γ') D → R J H') : tI L f σ H R := by
  refine ⟨Γ, T, hl, st, ?_⟩
  cases e : f Γ with
  | ok d Γ' => rw [e] at h; exact fun hl' J H' T' a b c => hR d Γ' J H' T' hl' a b c h
  | ex x Γ' => rw [e] at h; exact fun C d H' hl' s' xp => h C d σ H' hl' rfl hp s' xp
  | no => rw [e] at h; exact h
theorem s_for {iter tg : Expr} {body : List Stmt} {it : ISem} {t : GSem} {b : SSem} {kl : List Nat} (hp : PassesOwn (model L.X.prog L.X.w) L.X.A L.X.env L.X.xe) (hc : L.X.calm = true) (hi : PI L.X tg iter (tI L it)) (hg : PG L.X tg (tG L t)) (hb : PSs L.X body (tS L b))
    (hs : ∀ x, foldedSetIterable iter L.X.env x = pure x) : PS L.X (.For tg iter body [] pos) (tS L (forS it t kl b)) := psI (ps_for hp hc hi hg hb hs) fun D σ H q => by
  obtain ⟨Γ, T, hl, hpin, st, q⟩ := q
  refine tI_fl hl hpin st q fun ps Γ1 J H1 T' hl1 hT st1 ok h1 => ?_
  refine ⟨fun i m σ' H' => m = ps.length - i ∧ i ≤ ps.length ∧ ∃ Γ', Γ'.length = σ.length ∧ σ'.length = σ.length ∧ Pin L σ' ∧ St L (σ'.zip Γ' ++ T') H' ∧ PstS L σ.length T (loopL t kl b (ps.drop i) Γ') D,
    ⟨ps.length, by simp, Nat.zero_le _, Γ1, hl1, rfl, hpin, st1, h1⟩, ?_⟩
  rintro i m σ2 H2 ⟨rfl, hi, Γ2, hl2, hσ2, hp2, st2, h2⟩
  have hT2 : ∀ r ∈ T', RelS L.X.K L.X.mg H2 r := fun r hr => st2.rel r (List.mem_append_right _ hr)
  by_cases hlt : i < ps.length
  · have hd : ps.drop i = ps[i] :: ps.drop (i + 1) := List.drop_eq_getElem_cons hlt
    have hget : ps[i]? = some ps[i] := List.getElem?_eq_getElem hlt
    obtain ⟨go, yl⟩ := ok.go H2 hT2 i _ hget
    rw [hd] at h2
    unfold loopL at h2
    refine .inr ⟨go, fun σ' H' => i + 1 ≤ ps.length ∧ ∃ Γ', Γ'.length = σ.length ∧ σ'.length = σ.length ∧ Pin L σ' ∧ St L (σ'.zip Γ' ++ T') H' ∧ PstS L σ.length T (loopL t kl b (ps.drop (i + 1)) Γ') D,
      fun σ' H' ⟨z1, z2⟩ => ⟨ps.length - (i + 1), by omega, rfl, z1, z2⟩, fun x H3 hy => ?_⟩
    obtain ⟨hH, rx⟩ := yl x H3 hy
    have st3 : St L (σ2.zip Γ2 ++ T') H3 := by
      rcases hH with rfl | ⟨a, o, e, rfl⟩
      · exact st2
      · exact st2.fresh e
    cases et : t ps[i] Γ2 with
    | none => rw [et] at h2; exact h2.elim
    | some Γ3 =>
      rw [et] at h2
      refine ⟨Γ2, T', ps[i], hl2.trans hσ2.symm, hp2, st3.push_val rx, Γ3, et, fun σ4 H4 hl4 hσ4 hp4 st4 => ?_⟩
      have hn : σ4.length = σ.length := hσ4.trans hσ2
      refine ⟨Γ3, T', hl4.trans (hσ2.trans hn.symm), hp4, st4, ?_⟩
      rw [hn]
      simp only at h2
      have again : ∀ Γ5, PstS L σ.length T (loopL t kl b (ps.drop (i + 1)) (kill kl Γ5)) D → ∀ σ' H', Γ5.length = σ.length → σ'.length = σ.length → Pin L σ' → St L (σ'.zip Γ5 ++ T') H' →
          (i + 1 ≤ ps.length ∧ ∃ Γ', Γ'.length = σ.length ∧ σ'.length = σ.length ∧ Pin L σ' ∧ St L (σ'.zip Γ' ++ T') H' ∧ PstS L σ.length T (loopL t kl b (ps.drop (i + 1)) Γ') D) := fun Γ5 h5 σ' H' a1 a2 a3 a4 =>
        ⟨hlt, kill kl Γ5, by rw [kill_len]; exact a1, a2, a3, St.killS kl (a1.trans a2.symm) a4, h5⟩
      cases eb : b Γ3 with
      | nx Γ5 => rw [eb] at h2; exact again Γ5 h2
      | ct Γ5 => rw [eb] at h2; exact again Γ5 h2
      | bk Γ5 =>
        rw [eb] at h2
        exact fun σ' H' a1 a2 a3 a4 => h2 σ' H' (by rw [kill_len]; exact a1) a2 a3 (St.killS kl (a1.trans a2.symm) (a4.sub (List.Sublist.append (List.Sublist.refl _) hT)))
      | rt d Γ5 =>
        rw [eb] at h2
        exact fun v σ' H' a1 a2 a3 a4 => h2 v σ' H' a1 a2 a3 ⟨a4.st.sub (List.Sublist.append (List.Sublist.refl _) (psh_mono d v hT)), a4.pl⟩
      | ex x Γ5 =>
        rw [eb] at h2
        exact fun C d σ' H' a1 a2 a3 a4 a5 => h2 C d σ' H' a1 a2 a3 (a4.sub (List.Sublist.append (List.Sublist.refl _) hT)) a5
      | no => rw [eb] at h2; exact h2
  · have hi' : i = ps.length := by omega
    subst hi'
    rw [List.drop_length] at h2
    exact .inl ⟨ok.stop H2 hT2, h2 σ2 H2 hl2 hσ2 hp2 (st2.sub (List.Sublist.append (List.Sublist.refl _) hT))⟩
end

/-! ### while -/
def whileN (c : TSem) (kl : List Nat) (b : SSem) : Nat → Env → Option Fl
  | 0, _ => none
  | n + 1, Γ =>
    match c Γ with
    | .no => some .no
    | .ex e Γ1 => some (.ex e Γ1)
    | .ok false Γ1 => some (.nx Γ1)
    | .ok true Γ1 =>
      match b Γ1 with
      | .nx Γ2 => whileN c kl b n (kill kl Γ2)
      | .ct Γ2 => whileN c kl b n (kill kl Γ2)
      | .bk Γ2 => some (.nx (kill kl Γ2))
      | r => some r
theorem whileN_mono (c : TSem) (kl : List Nat) (b : SSem) : ∀ (n : Nat) (Γ : Env) (r : Fl), whileN c kl b n Γ = some r → whileN c kl b (n + 1) Γ = some r := by
  intro n
  induction n with
  | zero => intro Γ r h; cases h
  | succ n ih =>
    intro Γ r h
    unfold whileN at h ⊢
    cases ec : c Γ with
    | no => rw [ec] at h; exact h
    | ex e Γ1 => rw [ec] at h; exact h
    | ok v Γ1 =>
      rw [ec] at h
      cases v with
      | false => exact h
      | true =>
        simp only at h ⊢
        cases eb : b Γ1 with
        | nx Γ2 => rw [eb] at h; exact ih _ _ h
        | ct Γ2 => rw [eb] at h; exact ih _ _ h
        | bk Γ2 => rw [eb] at h; exact h
        | rt d Γ2 => rw [eb] at h; exact h
        | ex e Γ2 => rw [eb] at h; exact h
        | no => rw [eb] at h; exact h
theorem whileN_le {c : TSem} {kl : List Nat} {b : SSem} {n m : Nat} {Γ : Env} {r : Fl} (h : whileN c kl b n Γ = some r) (hm : n ≤ m) : whileN c kl b m Γ = some r := by
  induction hm with
  | refl => exact h
  | step _ ih => exact whileN_mono c kl b _ _ _ ih
theorem whileN_one {c : TSem} {kl : List Nat} {b : SSem} {n m : Nat} {Γ : Env} {r r' : Fl} (h : whileN c kl b n Γ = some r) (h' : whileN c kl b m Γ = some r') : r = r' := by
  have h1 := whileN_le h (Nat.le_max_left n m)
  have h2 := whileN_le h' (Nat.le_max_right n m)
  rw [h1] at h2
  exact Option.some.inj h2
open Classical in
noncomputable def whileS (c : TSem) (kl : List Nat) (b : SSem) : SSem := fun Γ =>
  if h : ∃ n r, whileN c kl b n Γ = some r then h.choose_spec.choose else .no
theorem whileS_of {c : TSem} {kl : List Nat} {b : SSem} {n : Nat} {Γ : Env} {r : Fl} (h : whileN c kl b n Γ = some r) : whileS c kl b Γ = r := by
  unfold whileS
  have h' : ∃ n r, whileN c kl b n Γ = some r := ⟨n, r, h⟩
  rw [dif_pos h']
  exact whileN_one h'.choose_spec.choose_spec h
section
variable {L : Lx} {pos : Pos}
theorem s_while {c : Expr} {body : List Stmt} {t : TSem} {b : SSem} {kl : List Nat} (hp : PassesOwn (model L.X.prog L.X.w) L.X.A L.X.env L.X.xe) (hc : PT L.X c (tT L t)) (hb : PSs L.X body (tS L b)) : PS L.X (.While c body [] pos) (tS L (whileS t kl b)) := psI (ps_while hp hc hb) fun D σ H q => by
  obtain ⟨Γ, T, hl, hpin, st, q⟩ := q
  obtain ⟨n0, r0, e0⟩ : ∃ n r, whileN t kl b n Γ = some r := Classical.byContradiction fun hn => by
    unfold whileS at q
    rw [dif_neg hn] at q
    exact q
  rw [whileS_of e0] at q
  refine ⟨fun m σ' H' => ∃ Γ', Γ'.length = σ.length ∧ σ'.length = σ.length ∧ Pin L σ' ∧ St L (σ'.zip Γ' ++ T) H' ∧ ∃ r, whileN t kl b m Γ' = some r ∧ PstS L σ.length T r D, ⟨n0, Γ, hl, rfl, hpin, st, r0, e0, q⟩, ?_⟩
  rintro m σ2 H2 ⟨Γ2, hl2, hσ2, hp2, st2, r, er, h2⟩
  cases m with
  | zero => cases er
  | succ m =>
    unfold whileN at er
    refine ⟨Γ2, T, hl2.trans hσ2.symm, st2, ?_⟩
    cases ec : t Γ2 with
    | no => rw [ec] at er; cases er; exact h2
    | ex e Γ1 =>
      rw [ec] at er; cases er
      exact fun C d H' a1 a2 a3 => h2 C d σ2 H' (a1.trans hσ2) hσ2 hp2 a2 a3
    | ok v Γ1 =>
      rw [ec] at er
      intro hl1 H1 st1
      cases v with
      | false =>
        cases er
        exact h2 σ2 H1 (hl1.trans hσ2) hσ2 hp2 st1
      | true =>
        rw [if_pos rfl]
        simp only at er
        refine ⟨fun σ' H' => ∃ Γ', Γ'.length = σ.length ∧ σ'.length = σ.length ∧ Pin L σ' ∧ St L (σ'.zip Γ' ++ T) H' ∧ ∃ r, whileN t kl b m Γ' = some r ∧ PstS L σ.length T r D, fun σ' H' z => ⟨m, Nat.lt_succ_self m, z⟩, Γ1, T, hl1, hp2, st1, ?_⟩
        rw [hσ2]
        have again : ∀ Γ5, whileN t kl b m (kill kl Γ5) = some r → ∀ σ' H', Γ5.length = σ.length → σ'.length = σ.length → Pin L σ' → St L (σ'.zip Γ5 ++ T) H' →
            ∃ Γ', Γ'.length = σ.length ∧ σ'.length = σ.length ∧ Pin L σ' ∧ St L (σ'.zip Γ' ++ T) H' ∧ ∃ r, whileN t kl b m Γ' = some r ∧ PstS L σ.length T r D := fun Γ5 h5 σ' H' a1 a2 a3 a4 =>
          ⟨kill kl Γ5, by rw [kill_len]; exact a1, a2, a3, St.killS kl (a1.trans a2.symm) a4, r, h5, h2⟩
        cases eb : b Γ1 with
        | nx Γ5 => rw [eb] at er; exact again Γ5 er
        | ct Γ5 => rw [eb] at er; exact again Γ5 er
        | bk Γ5 =>
          rw [eb] at er; cases er
          exact fun σ' H' a1 a2 a3 a4 => h2 σ' H' (by rw [kill_len]; exact a1) a2 a3 (St.killS kl (a1.trans a2.symm) a4)
        | rt d Γ5 => rw [eb] at er; cases er; exact h2
        | ex x Γ5 => rw [eb] at er; cases er; exact h2
        | no => rw [eb] at er; cases er; exact h2
end
end Mv
end S4_

section S5_
set_option Elab.async false
set_option linter.all false
set_option maxRecDepth 100000
namespace Mv
open PySem PySem.Spec PyProof.Rows L2

/-! ### defs -/
/-- room for k calls, and no repr running around -/
structure RoomG (k : Nat) (A : Around) : Prop where
  r : Room k A
  g : A.guards = some []
theorem RoomG.mono {j k : Nat} {A : Around} (r : RoomG k A) (h : j ≤ k) : RoomG j A := ⟨r.r.mono h, r.g⟩
/-- a def keeps a promise, where no repr runs around it -/
structure FnG (P : Program) (w : World) (K : PySem.W.Frag) (mg : Str → Option Value) (base : Heap) (k : Nat) (f : Addr) (fd : FuncData) (ps : List Str) (sp : Sp) : Prop where
  len : ∀ vs H Q E, sp vs H Q E → vs.length = ps.length
  go : ∀ (A : Around) (outer : List PySem.Env) (s : Shared) (H : Hp) (args : Args) (us : List Value) (vs : List V) (Q : VK) (E : XK), RoomG k A → Env0 P w K mg base A outer s H → BindsTo s fd args (ps.zip us) → Vals vs us →
    sp vs H Q E → codeAny (model P w) A (.call (.ref f) args) (CR (L2.CX P w) outer P w H s Q E) s
theorem FnG.mono {P : Program} {w : World} {K : PySem.W.Frag} {mg : Str → Option Value} {base : Heap} {j k : Nat} {f : Addr} {fd : FuncData} {ps : List Str} {sp : Sp} (F : FnG P w K mg base j f fd ps sp) (h : j ≤ k) : FnG P w K mg base k f fd ps sp :=
  ⟨F.len, fun A o s H a us vs Q E hr => F.go A o s H a us vs Q E (hr.mono h)⟩

inductive FRes where
  | ret (r : Slot) (outs : List OV)
  | ex (e : Exn) (outs : List OV)
  | no
abbrev FSem := List Slot → FRes
/-- the objects of the caller that a def writes -/
def mAt (vs : List V) (i : Nat) : Option (Nat × Addr) :=
  match vs[i]? with
  | some (V.ref a) => some (i, a)
  | _ => none
def mAd (ms : List Nat) (vs : List V) : List (Nat × Addr) := ms.filterMap (mAt vs)
/-- an exception, as ExP -/
def ExG (K : PySem.W.Frag) (mg : Str → Option Value) (e : Exn) (C : Value) (d : Option Addr) (H : Hp) : Prop :=
  (∃ c, mg e.cls = some (.ref c) ∧ C = .ref c) ∧
    ((e.fs = [] ∧ d = none) ∨ ∃ a fs, d = some a ∧ H a = some (.xd fs) ∧ fs.map (·.1) = e.fs.map (·.1) ∧ RpA K mg H (e.fs.map (·.2)) (fs.map (·.2)))
/-- the written objects behind the call -/
def outRS (ad : List (Nat × Addr)) (outs : List OV) : List RS := (ad.zip outs).map fun p => (some (V.ref p.1.2), Slot.ow p.2)
/-- what a call has left: all stood but the written objects, which hold outs; the result (and it, if it is one's own, is new) -/
structure Aft (K : PySem.W.Frag) (mg : Str → Option Value) (H : Hp) (ad : List (Nat × Addr)) (outs : List OV) (res : List RS) (H' : Hp) : Prop where
  base : ∀ a o, H a = some o → a ∉ ad.map (·.2) → H' a = some o
  len : outs.length = ad.length
  rel : ∀ r ∈ outRS ad outs ++ res, RelS K mg H' r
  nd : (own res).Nodup
  new : ∀ a ∈ own res, H a = none

/-- the promise of a def whose meaning is F; ms: the parameters that it writes -/
def spF (K : PySem.W.Frag) (mg : Str → Option Value) (ms : List Nat) (n : Nat) (F : FSem) : Sp := fun vs H Q E => vs.length = n ∧ ∃ args : List Slot, args.length = n ∧
  (∀ r ∈ (vs.map some).zip args, RelS K mg H r) ∧ (own ((vs.map some).zip args)).Nodup ∧ (∀ i o, args[i]? = some (.ow o) → i ∈ ms) ∧ (∀ i ∈ ms, ∃ o, args[i]? = some (.ow o)) ∧
  match F args with
  | .ret r outs => ∀ v H', Aft K mg H (mAd ms vs) outs [(some v, r)] H' → Q v H'
  | .ex e outs => ∀ C d H', Aft K mg H (mAd ms vs) outs [] H' → ExG K mg e C d H' → E C d H'
  | .no => False

/-! ### a def's body -/
def outsOf (Γ : Env) : List Nat → Option (List OV)
  | [] => some []
  | i :: r =>
    match Γ[i]?, outsOf Γ r with
    | some (.ow o), some l => some (o :: l)
    | _, _ => none
def FRes.of (r : Slot) (o : Option (List OV)) : FRes :=
  match o with
  | some l => .ret r l
  | none => .no
def FRes.exOf (e : Exn) (o : Option (List OV)) : FRes :=
  match o with
  | some l => .ex e l
  | none => .no
/-- a body's meaning as a def's: n slots, the parameters first; ms the written ones -/
def fnE (ms : List Nat) (r : Fl) : FRes :=
  match r with
  | .nx Γ => .of (.sh .non) (outsOf Γ ms)
  | .rt (.val p) Γ => .of (.sh p) (outsOf Γ ms)
  | .rt (.tmp o) Γ => .of (.ow o) (outsOf Γ ms)
  | .rt (.plc i) Γ =>
    if i ∈ ms then .no else
    match Γ[i]? with
    | some (.ow o) => .of (.ow o) (outsOf Γ ms)
    | some (.sh p) => .of (.sh p) (outsOf Γ ms)
    | _ => .no
  | .ex e Γ => .exOf e (outsOf Γ ms)
  | _ => .no
def fnS (n : Nat) (ms : List Nat) (body : SSem) : FSem := fun args => fnE ms (body (args ++ List.replicate (n - args.length) .un))

theorem zip_at {σ : L2.St} {Γ : Env} {i : Nat} {v : V} {sl : Slot} (h1 : σ[i]? = some (some v)) (h2 : Γ[i]? = some sl) : (σ.zip Γ)[i]? = some (some v, sl) := by
  rw [List.getElem?_zip_eq_some]; exact ⟨h1, h2⟩
theorem zip_mem {σ : L2.St} {Γ : Env} {i : Nat} {v : V} {sl : Slot} (h1 : σ[i]? = some (some v)) (h2 : Γ[i]? = some sl) : ((some v, sl) : RS) ∈ σ.zip Γ := List.mem_of_getElem? (zip_at h1 h2)
theorem own_pw {rs : List RS} (h : (own rs).Nodup) : rs.Pairwise fun x y => ∀ a, ownAt x = some a → ownAt y ≠ some a := by
  have h2 : rs.Pairwise fun x y => ∀ a, ownAt x = some a → ∀ b, ownAt y = some b → a ≠ b := List.pairwise_filterMap.mp h
  exact h2.imp fun q a ha hb => q a ha a hb rfl
theorem own_inj {rs : List RS} (h : (own rs).Nodup) {i j : Nat} {x y : RS} {a : Addr} (hi : rs[i]? = some x) (hj : rs[j]? = some y) (hx : ownAt x = some a) (hy : ownAt y = some a) : i = j := by
  have pw := own_pw h
  rw [List.pairwise_iff_getElem] at pw
  obtain ⟨li, ei⟩ := List.getElem?_eq_some_iff.mp hi
  obtain ⟨lj, ej⟩ := List.getElem?_eq_some_iff.mp hj
  rcases Nat.lt_trichotomy i j with q | q | q
  · exact absurd (by rw [ej]; exact hy) (pw i j li lj q a (by rw [ei]; exact hx))
  · exact q
  · exact absurd (by rw [ei]; exact hx) (pw j i lj li q a (by rw [ej]; exact hy))

/-- what stands at the pinned slots at a def's end -/
theorem outs_rel {σ : L2.St} {Γ : Env} {vs : List V} : ∀ {ms : List Nat} {outs : List OV}, (∀ i ∈ ms, ∃ a, vs[i]? = some (.ref a)) → (∀ p ∈ mAd ms vs, σ[p.1]? = some (some (.ref p.2))) → outsOf Γ ms = some outs →
    outs.length = (mAd ms vs).length ∧ (∀ r ∈ outRS (mAd ms vs) outs, r ∈ σ.zip Γ) ∧ ∀ p ∈ mAd ms vs, ∃ o, Γ[p.1]? = some (.ow o)
  | [], outs, _, _, h => by
    cases h
    exact ⟨rfl, fun r hr => by simp [outRS, mAd] at hr, fun p hp => by simp [mAd] at hp⟩
  | i :: r, outs, h1, h2, h => by
    obtain ⟨a, ea⟩ := h1 i List.mem_cons_self
    have em : mAd (i :: r) vs = (i, a) :: mAd r vs := by
      unfold mAd
      rw [List.filterMap_cons]
      unfold mAt
      rw [ea]
    rw [em] at h2 ⊢
    unfold outsOf at h
    cases e1 : Γ[i]? with
    | none => rw [e1] at h; cases h
    | some sl =>
      cases sl with
      | un => rw [e1] at h; cases h
      | sh p => rw [e1] at h; cases h
      | ow o =>
        cases e2 : outsOf Γ r with
        | none => rw [e1, e2] at h; cases h
        | some l =>
          rw [e1, e2] at h
          cases h
          obtain ⟨l1, l2, l3⟩ := outs_rel (ms := r) (outs := l) (fun j hj => h1 j (List.mem_cons_of_mem _ hj)) (fun p hp => h2 p (List.mem_cons_of_mem _ hp)) e2
          refine ⟨by rw [List.length_cons, List.length_cons, l1], fun z hz => ?_, fun p hp => ?_⟩
          · have hz : z ∈ (some (V.ref a), Slot.ow o) :: outRS (mAd r vs) l := hz
            rcases List.mem_cons.mp hz with rfl | hz
            · exact zip_mem (h2 (i, a) List.mem_cons_self) e1
            · exact l2 z hz
          · rcases List.mem_cons.mp hp with rfl | hp
            · exact ⟨o, e1⟩
            · exact l3 p hp

section
variable {P : Program} {w : World} {K : PySem.W.Frag} {mg : Str → Option Value} {base : Heap}
theorem start_zip {N : List Str} {vs : List V} {args : List Slot} (h : args.length = vs.length) : (L2.start N vs).zip (args ++ List.replicate (N.length - args.length) .un) = (vs.map some).zip args ++ (List.replicate (N.length - vs.length) (none : Option V)).zip (List.replicate (N.length - args.length) Slot.un) := by
  unfold L2.start
  rw [List.zip_append (by rw [List.length_map]; exact h.symm)]
theorem own_none (k j : Nat) : own ((List.replicate k (none : Option V)).zip (List.replicate j Slot.un)) = [] := by
  apply List.eq_nil_iff_forall_not_mem.mpr
  intro a ha
  obtain ⟨o, ho⟩ := mem_own ha
  have := (List.of_mem_zip ho).2
  have := (List.mem_replicate.mp this).2
  cases this

/-- the layer's context of a def's body -/
abbrev lxOf (P : Program) (w : World) (K : PySem.W.Frag) (mg : Str → Option Value) (base : Heap) (N : List Str) (qual : Str) (scope : Scope) (f : Addr) (cd : Value) (A : Around) (outer : List PySem.Env) (s : Shared) (H : Hp) (E : XK) (ms : List Nat) (vs : List V) : Lx where
  X := cxOf (L2.CX P w) P w K mg base N qual scope f cd A outer s H E
  E := E
  B := H
  M := mAd ms vs

theorem mAd_fst {ms : List Nat} {vs : List V} {i : Nat} (h : i ∈ (mAd ms vs).map (·.1)) : i ∈ ms := by
  obtain ⟨p, hp, e⟩ := List.mem_map.mp h
  obtain ⟨j, hj, e2⟩ := List.mem_filterMap.mp hp
  unfold mAt at e2
  cases q : vs[j]? with
  | none => rw [q] at e2; cases e2
  | some v =>
    rw [q] at e2
    cases v <;> try cases e2
    have e : j = i := e
    exact e ▸ hj

theorem fnG_of {k : Nat} {f : Addr} {name qual : Str} {params : Arguments} {body : List Stmt} {scope : Scope} {dV kV doc pm cdv ct oc : Value} {an od : Option Addr}
    {osl : Array (Option Value)} {N ps : List Str} {ms : List Nat} {b : SSem} (lk : K.lookup f = some ⟨oc, od, .func (PySem.W.fnOf name qual params body scope dV kV doc pm an cdv ct), osl⟩) (hcd : PySem.W.codeIn K cdv qual = true) (S : FnScope N ps scope)
    (hbody : ∀ (A : Around) (outer : List PySem.Env) (s : Shared) (H : Hp) (vs : List V) (E : XK), RoomG k (A.deeper (envOfC qual scope s.heap.objs.size f cdv)) → vs.length = ps.length →
      PSs (cxOf (L2.CX P w) P w K mg base N qual scope f cdv A outer s H E) body (tS (lxOf P w K mg base N qual scope f cdv A outer s H E ms vs) b)) :
    FnG P w K mg base (k + 1) f (PySem.W.fnOf name qual params body scope dV kV doc pm an cdv ct) ps (spF K mg ms ps.length (fnS N.length ms b)) := by
  refine ⟨fun vs H Q E h => h.1, fun A outer s H args us vs Q E hr e0 hb r hsp => ?_⟩
  obtain ⟨hl, as, hla, hrel, hnd, how, hms, hF⟩ := hsp
  have KX : K.In s.heap := e0.mod.kin.keeps fun b o e => (e0.bs b o e).1
  have lim : s.heap.NoLimit := e0.mod.nolimit.keeps fun b o e => (e0.bs b o e).1
  have hkind : ∀ y ∈ ps.zip us, scope.names.lookup y.1 = some .local ∨ (scope.names.lookup y.1 = some .cell ∧ ((cellsFrom (s.heap.objs.size + 1) scope.names []).lookup y.1).isSome = true) := fun ⟨n, v⟩ hy => by
    rcases S.par n (List.of_mem_zip hy).1 with q | q
    · exact .inl q
    · exact .inr ⟨q, PySem.W.cellsFrom_some _ _ _ (.inl q)⟩
  refine codeAny_call_function hr.r.depth (KX _ _ lk) rfl S.co S.gen rfl (PySem.W.codeRec_of KX hcd) (hb _ _ _ _ ?_)
  refine wpAny_newFunctionEnv_cells S.kind hkind fun env he s1 x => ?_
  subst he
  refine ⟨lim.keeps x.toInCall.keep, codeAny_func ?_⟩
  have hrd : RoomG k (A.deeper (envOfC qual scope s.heap.objs.size f cdv)) := ⟨hr.r.deeper _, hr.g⟩
  have ht := hbody A outer s H vs E hrd hl
  have I : Inv (cxOf (L2.CX P w) P w K mg base N qual scope f cdv A outer s H E) [] (L2.start N vs) H s1 := inv_start S hr.r.hd e0 hl r x
  let L := lxOf P w K mg base N qual scope f cdv A outer s H E ms vs
  have hpl : ps.length ≤ N.length := by have := congrArg List.length S.pre; rw [List.length_take] at this; omega
  have hsl : (L2.start N vs).length = N.length := by
    unfold L2.start
    rw [List.length_append, List.length_map, List.length_replicate]; omega
  let Γ0 : Env := as ++ List.replicate (N.length - as.length) .un
  have hΓ : Γ0.length = (L2.start N vs).length := by
    show (as ++ List.replicate (N.length - as.length) Slot.un).length = _
    rw [hsl, List.length_append, List.length_replicate]; omega
  have hav : as.length = vs.length := hla.trans hl.symm
  have hmv : ∀ i ∈ ms, ∃ a, vs[i]? = some (.ref a) := fun i hi => by
    obtain ⟨o, eo⟩ := hms i hi
    have hi' : i < vs.length := by rw [← hav]; exact (List.getElem?_eq_some_iff.mp eo).1
    have ev := List.getElem?_eq_getElem hi'
    obtain ⟨a, ea, _⟩ := hrel (some vs[i], .ow o) (List.mem_of_getElem? (i := i) (by rw [List.getElem?_zip_eq_some, List.getElem?_map, ev]; exact ⟨rfl, eo⟩))
    exact ⟨a, by rw [ev, Option.some.inj ea]⟩
  have hpin : Pin L (L2.start N vs) := fun p hp => by
    obtain ⟨j, hj, e2⟩ := List.mem_filterMap.mp (show p ∈ mAd ms vs from hp)
    obtain ⟨a, ea⟩ := hmv j hj
    unfold mAt at e2
    rw [ea] at e2
    cases e2
    have hj' : j < vs.length := (List.getElem?_eq_some_iff.mp ea).1
    show (L2.start N vs)[j]? = _
    unfold L2.start
    rw [List.getElem?_append_left (by rw [List.length_map]; exact hj'), List.getElem?_map, ea]
    rfl
  have hown : own ((L2.start N vs).zip Γ0 ++ []) = own ((vs.map some).zip as) := by
    rw [List.append_nil]
    show own ((L2.start N vs).zip (as ++ List.replicate (N.length - as.length) .un)) = _
    rw [start_zip hav, own_app, own_none, List.append_nil]
  have st : St L ((L2.start N vs).zip Γ0 ++ []) H := by
    refine ⟨fun z hz => ?_, by rw [hown]; exact hnd, fun a ha => ?_, fun a o h1 _ => h1⟩
    · rw [List.append_nil] at hz
      have hz : z ∈ (L2.start N vs).zip (as ++ List.replicate (N.length - as.length) .un) := hz
      rw [start_zip hav] at hz
      rcases List.mem_append.mp hz with hz | hz
      · exact hrel z hz
      · obtain ⟨z1, z2⟩ := z
        have := (List.mem_replicate.mp (List.of_mem_zip hz).2).2
        subst this
        trivial
    · rw [hown] at ha
      obtain ⟨o, ho⟩ := mem_own ha
      obtain ⟨i, hi⟩ := List.mem_iff_getElem?.mp ho
      rw [List.getElem?_zip_eq_some] at hi
      have hm := how i o hi.2
      refine .inl (List.mem_map.mpr ⟨(i, a), List.mem_filterMap.mpr ⟨i, hm, ?_⟩, rfl⟩)
      unfold mAt
      have h1 := hi.1
      rw [List.getElem?_map] at h1
      cases q : vs[i]? with
      | none => rw [q] at h1; cases h1
      | some v => rw [q] at h1; cases h1; rfl
  -- the ends
  have aft : ∀ {σ' : L2.St} {Γ' : Env} {R : List RS} {H' : Hp} (res : List RS) (outs : List OV), Γ'.length = σ'.length → Pin L σ' → St L (σ'.zip Γ' ++ R) H' → outsOf Γ' ms = some outs → (∀ r ∈ res, RelS K mg H' r) → (own res).Nodup → (∀ a ∈ own res, a ∈ own (σ'.zip Γ' ++ R)) →
      (∀ a ∈ own res, ∀ p ∈ mAd ms vs, (∃ o, Γ'[p.1]? = some (.ow o)) → σ'[p.1]? = some (some (.ref p.2)) → a ≠ p.2) → Aft K mg H (mAd ms vs) outs res H' := fun {σ' Γ' R H'} res outs h1 h2 h3 ho h4 h5 h6 h7 => by
    obtain ⟨l1, l2, l3⟩ := outs_rel (σ := σ') hmv h2 ho
    refine ⟨fun a o ha hn => h3.base a o ha hn, l1, fun r hr => ?_, h5, fun a ha => ?_⟩
    · rcases List.mem_append.mp hr with hr | hr
      · exact h3.rel r (List.mem_append_left _ (l2 r hr))
      · exact h4 r hr
    · rcases h3.nw a (h6 a ha) with z | z
      · obtain ⟨p, hp, e⟩ := List.mem_map.mp z
        exact absurd e.symm (h7 a ha p hp (l3 p hp) (h2 p hp))
      · exact z
  have aftV : ∀ {σ' : L2.St} {Γ' : Env} {R : List RS} {H' : Hp} {v : V} {p : PV} {outs : List OV}, Γ'.length = σ'.length → Pin L σ' → St L (σ'.zip Γ' ++ R) H' → outsOf Γ' ms = some outs → Rp K mg H' p v → Aft K mg H (mAd ms vs) outs [(some v, .sh p)] H' := fun {σ' Γ' R H' v p outs} h1 h2 h3 ho h4 => by
    have e0 : own [(some v, Slot.sh p)] = [] := own_sh _ _ _
    exact aft [(some v, .sh p)] outs h1 h2 h3 ho (fun r hr => by rw [List.mem_singleton.mp hr]; exact ⟨v, rfl, h4⟩) (by rw [e0]; exact List.nodup_nil) (fun a ha => by rw [e0] at ha; cases ha) (fun a ha => by rw [e0] at ha; cases ha)
  have hq : tS L b { nx := fun _ H' => Q .non H', rt := Q } (L2.start N vs) H := by
    refine ⟨Γ0, [], hΓ, hpin, st, ?_⟩
    unfold fnS at hF
    have eb : (as ++ List.replicate (N.length - as.length) Slot.un) = Γ0 := rfl
    rw [eb] at hF
    cases q : b Γ0 with
    | nx Γ' =>
      rw [q] at hF
      intro σ' H' a1 a2 a3 a4
      cases eo : outsOf Γ' ms with
      | none => simp only [fnE, eo, FRes.of] at hF
      | some outs =>
        simp only [fnE, eo, FRes.of] at hF
        exact hF .non H' (aftV (a1.trans a2.symm) a3 a4 eo (show Rp K mg H' .non .non from rfl))
    | rt d Γ' =>
      rw [q] at hF
      intro v σ' H' a1 a2 a3 a4
      cases d with
      | val p =>
        cases eo : outsOf Γ' ms with
        | none => simp only [fnE, eo, FRes.of] at hF
        | some outs =>
          simp only [fnE, eo, FRes.of] at hF
          obtain ⟨x, ex, qx⟩ := a4.st.rel (some v, .sh p) (List.mem_append_right _ List.mem_cons_self)
          cases ex
          exact hF v H' (aftV (a1.trans a2.symm) a3 a4.st eo qx)
      | tmp o =>
        cases eo : outsOf Γ' ms with
        | none => simp only [fnE, eo, FRes.of] at hF
        | some outs =>
          simp only [fnE, eo, FRes.of] at hF
          have h4 := a4.st
          obtain ⟨a, ea, qa⟩ := h4.rel (some v, .ow o) (List.mem_append_right _ List.mem_cons_self)
          cases ea
          have e1 : own [(some (V.ref a), Slot.ow o)] = [a] := own_ow _ _ _
          have hat : (σ'.zip Γ' ++ psh (.tmp o) (.ref a) [])[(σ'.zip Γ').length]? = some (some (.ref a), .ow o) := by
            rw [List.getElem?_append_right (Nat.le_refl _), Nat.sub_self]; rfl
          refine hF (.ref a) H' (aft [(some (.ref a), .ow o)] outs (a1.trans a2.symm) a3 h4 eo (fun r hr => by rw [List.mem_singleton.mp hr]; exact ⟨a, rfl, qa⟩) (by rw [e1]; exact List.pairwise_singleton _ _) (fun b hb => ?_) (fun b hb p hp ⟨o', eo'⟩ hs => ?_))
          · rw [e1] at hb
            rw [List.mem_singleton.mp hb]
            exact List.mem_filterMap.mpr ⟨_, List.mem_append_right _ List.mem_cons_self, rfl⟩
          · rw [e1] at hb
            have hb := List.mem_singleton.mp hb
            subst hb
            intro e
            have hz := zip_at hs eo'
            have hlt : p.1 < (σ'.zip Γ').length := (List.getElem?_eq_some_iff.mp hz).1
            have := own_inj h4.nd (i := p.1) (j := (σ'.zip Γ').length) (by rw [List.getElem?_append_left hlt]; exact hz) hat rfl (by rw [e]; rfl)
            omega
      | plc i =>
        simp only [fnE] at hF
        by_cases hi : i ∈ ms
        · rw [if_pos hi] at hF; exact hF.elim
        · rw [if_neg hi] at hF
          have hv := a4.pl i rfl
          cases ei : Γ'[i]? with
          | none => simp only [ei] at hF
          | some sl =>
            cases sl with
            | un => simp only [ei] at hF
            | sh p =>
              simp only [ei] at hF
              cases eo : outsOf Γ' ms with
              | none => simp only [eo, FRes.of] at hF
              | some outs =>
                simp only [eo, FRes.of] at hF
                exact hF v H' (aftV (a1.trans a2.symm) a3 a4.st eo (a4.st.valS hv ei))
            | ow o =>
              simp only [ei] at hF
              cases eo : outsOf Γ' ms with
              | none => simp only [eo, FRes.of] at hF
              | some outs =>
                simp only [eo, FRes.of] at hF
                have h4 := a4.st
                have hz := zip_at hv ei
                obtain ⟨a, ea, qa⟩ := h4.rel (some v, .ow o) (List.mem_append_left _ (zip_mem hv ei))
                cases ea
                have e1 : own [(some (V.ref a), Slot.ow o)] = [a] := own_ow _ _ _
                refine hF (.ref a) H' (aft [(some (.ref a), .ow o)] outs (a1.trans a2.symm) a3 h4 eo (fun r hr => by rw [List.mem_singleton.mp hr]; exact ⟨a, rfl, qa⟩) (by rw [e1]; exact List.pairwise_singleton _ _) (fun b hb => ?_) (fun b hb p hp ⟨o', eo'⟩ hs => ?_))
                · rw [e1] at hb
                  rw [List.mem_singleton.mp hb]
                  exact List.mem_filterMap.mpr ⟨_, List.mem_append_left _ (zip_mem hv ei), rfl⟩
                · rw [e1] at hb
                  have hb := List.mem_singleton.mp hb
                  subst hb
                  intro e
                  have hz2 := zip_at hs eo'
                  have hlt : p.1 < (σ'.zip Γ').length := (List.getElem?_eq_some_iff.mp hz2).1
                  have hlt2 : i < (σ'.zip Γ').length := (List.getElem?_eq_some_iff.mp hz).1
                  have := own_inj h4.nd (i := p.1) (j := i) (by rw [List.getElem?_append_left hlt]; exact hz2) (by rw [List.getElem?_append_left hlt2]; exact hz) rfl (by rw [e]; rfl)
                  exact hi (this ▸ mAd_fst (List.mem_map_of_mem (f := Prod.fst) hp))
    | bk Γ' => rw [q] at hF; exact hF.elim
    | ct Γ' => rw [q] at hF; exact hF.elim
    | ex e Γ' =>
      rw [q] at hF
      intro C d σ' H' a1 a2 a3 a4 a5
      cases eo : outsOf Γ' ms with
      | none => simp only [fnE, eo, FRes.exOf] at hF
      | some outs =>
        simp only [fnE, eo, FRes.exOf] at hF
        exact hF C d H' (aft [] outs (a1.trans a2.symm) a3 a4 eo (fun r hr => nomatch hr) List.nodup_nil (fun a ha => nomatch ha) (fun a ha => nomatch ha)) a5
    | no => rw [q] at hF; exact hF.elim
  refine wpAny_mono (ht.run [] s1 (L2.start N vs) H _ I hq) (fun fl s' hs => ?_) fun e s' hs => hs
  have fin : ∀ {σ' : L2.St} {H' : Hp} {v : V} {u : Value}, Inv (cxOf (L2.CX P w) P w K mg base N qual scope f cdv A outer s H E) [] σ' H' s' → RelV v u → Q v H' → CE outer P w H s Q u s' :=
    fun {σ' H' v u} J rv q => ⟨v, H', J.os, J.bare, J.base, J.hok, rv, q⟩
  cases fl with
  | ret u =>
    obtain ⟨v, σ', H', J, rv, q⟩ := hs
    exact fin J rv q
  | next =>
    obtain ⟨σ', H', J, q⟩ := hs
    exact fin (v := V.non) (u := Value.none) J rfl q
  | brk =>
    obtain ⟨_, _, _, q⟩ := hs
    exact False.elim q
  | cont =>
    obtain ⟨_, _, _, q⟩ := hs
    exact False.elim q
end
end Mv
end S5_

section S6_
set_option Elab.async false
set_option linter.all false
set_option maxRecDepth 100000
namespace Mv
open PySem PySem.Spec PyProof.Rows L2

/-! ### argument lists -/
def aS : List ESem → ASem
  | [], Γ => .ok [] Γ
  | f :: fs, Γ => (f Γ).bind fun d Γ1 => (aS fs Γ1).bind fun ds Γ2 => .ok (d :: ds) Γ2
def pshs : List Opd → List V → List RS → List RS
  | d :: ds, v :: vs, T => pshs ds vs (psh d v T)
  | _, _, T => T
theorem pshs_sub : ∀ (ds : List Opd) (vs : List V) (T : List RS), T.Sublist (pshs ds vs T)
  | [], vs, T => by cases vs <;> exact List.Sublist.refl _
  | d :: ds, [], T => List.Sublist.refl _
  | d :: ds, v :: vs, T => (psh_sub d v T).trans (pshs_sub ds vs _)
structure ArgP (L : Lx) (σ : L2.St) (Γ : Env) (T : List RS) (ds : List Opd) (vs : List V) (H : Hp) : Prop where
  st : St L (σ.zip Γ ++ pshs ds vs T) H
  len : vs.length = ds.length
  has : ∀ (i : Nat) d v, ds[i]? = some d → vs[i]? = some v → Has σ (pshs ds vs T) d v
def tA (L : Lx) (f : ASem) : TA := fun σ H Q => ∃ Γ T, Γ.length = σ.length ∧ St L (σ.zip Γ ++ T) H ∧
  Pst L σ T (f Γ) fun ds Γ' => ∀ vs H', ArgP L σ Γ' T ds vs H' → Q vs H'
section
variable {L : Lx}
theorem tA_bind {α : Type} {σ : L2.St} {Γ : Env} {T T1 : List RS} {H : Hp} {f : ASem} {k : List Opd → Env → Rs α} {Kp : α → Env → Prop} {R : List V → Hp → Prop} (hl : Γ.length = σ.length) (hs : T.Sublist T1) (st : St L (σ.zip Γ ++ T1) H)
    (h : Pst L σ T ((f Γ).bind k) Kp) (hR : ∀ d Γ' v H', Γ'.length = σ.length → ArgP L σ Γ' T1 d v H' → Pst L σ T (k d Γ') Kp → R v H') : tA L f σ H R := by
  refine ⟨Γ, T1, hl, st, ?_⟩
  cases e : f Γ with
  | ok d Γ' => rw [e] at h; exact fun hl' v H' o => hR d Γ' v H' hl' o h
  | ex x Γ' => rw [e] at h; exact Pst.mono (α := α) (r := Rs.ex x Γ') (k := Kp) hs h
  | no => rw [e] at h; exact h
theorem a_nil : PA L.X [] (tA L (aS [])) := paI pa_nil fun σ H Q q => by
  obtain ⟨Γ, T, hl, st, q⟩ := q
  exact q hl [] H ⟨st, rfl, fun i d v h => by simp at h⟩
theorem a_cons {e : Expr} {es : List Expr} {f : ESem} {fs : List ESem} (ha : PE L.X e (tE L f)) (hr : PA L.X es (tA L (aS fs))) (hs : starEach (e :: es) L.X.env = (false, eval e L.X.env) :: starEach es L.X.env) : PA L.X (e :: es) (tA L (aS (f :: fs))) :=
  paI (pa_cons ha hr hs) fun σ H Q q => by
    obtain ⟨Γ, T, hl, st, q⟩ := q
    refine tE_bind hl (List.Sublist.refl T) st q fun d Γ1 x H1 hl1 o1 h1 => ?_
    refine tA_bind hl1 (psh_sub d x T) o1.st h1 fun ds Γ2 xs H2 hl2 o2 h2 => ?_
    refine h2 hl2 (x :: xs) H2 ⟨o2.st, by rw [List.length_cons, List.length_cons, o2.len], fun i d' v' e1 e2 => ?_⟩
    cases i with
    | zero =>
      simp at e1 e2
      subst e1 e2
      exact o1.has.up fun r hr => (pshs_sub ds xs _).subset hr
    | succ i => exact o2.has i d' v' (by simpa using e1) (by simpa using e2)
end

/-! ### locking one's own for a call -/
def frzOne (Γ : Env) (j : Nat) : Env :=
  match Γ[j]? with
  | some (Slot.ow o) => Γ.set j (.sh o.pv)
  | _ => Γ
def frzJ (js : List Nat) (Γ : Env) : Env := js.foldl frzOne Γ
def OV.plain : OV → Bool
  | .ins _ _ _ => false
  | _ => true
section
variable {L : Lx} {σ : L2.St} {R : List RS} {pins : List (Addr × Obj)} {s : Shared}
/-- u may be locked and unlocked: a list, a dict -/
def Lk : HO → Prop
  | .lst _ => True
  | .dK _ => True
  | .dT _ => True
  | _ => False
theorem Lk.mut {u : HO} (h : Lk u) : Mut (some u) := by cases u <;> first | trivial | exact h.elim
theorem frzJ_cons (j : Nat) (js : List Nat) (Γ : Env) {o : OV} (h : Γ[j]? = some (.ow o)) : frzJ (j :: js) Γ = frzJ js (Γ.set j (.sh o.pv)) := by
  show js.foldl frzOne (frzOne Γ j) = js.foldl frzOne _
  unfold frzOne
  rw [h]
theorem frzJ_len (js : List Nat) : ∀ Γ : Env, (frzJ js Γ).length = Γ.length := by
  induction js with
  | nil => intro Γ; rfl
  | cons j js ih =>
    intro Γ
    show (frzJ js (frzOne Γ j)).length = _
    rw [ih]
    unfold frzOne
    split
    · rw [List.length_set]
    · rfl
theorem frzJ_off (js : List Nat) : ∀ (Γ : Env) (i : Nat), i ∉ js → (frzJ js Γ)[i]? = Γ[i]? := by
  induction js with
  | nil => intro Γ i _; rfl
  | cons j js ih =>
    intro Γ i hi
    show (frzJ js (frzOne Γ j))[i]? = _
    rw [ih _ i (fun z => hi (List.mem_cons_of_mem _ z))]
    unfold frzOne
    split
    · rw [List.getElem?_set_ne (fun z : j = i => hi (by rw [z]; exact List.mem_cons_self))]
    · rfl
def adOf (σ : L2.St) (js : List Nat) : List Addr := js.filterMap fun j => match σ[j]? with
  | some (some (V.ref a)) => some a
  | _ => none
theorem lock_all : ∀ (js : List Nat) (Γ : Env) (H : Hp), js.Nodup → (∀ j ∈ js, ∃ o, Γ[j]? = some (.ow o) ∧ o.plain = true) → Γ.length = σ.length → L2.Inv L.X pins σ H s → St L (σ.zip Γ ++ R) H →
    ∃ H1, L2.Inv L.X pins σ H1 s ∧ St L (σ.zip (frzJ js Γ) ++ R) H1 ∧ Le H H1 ∧ (∀ b, b ∉ adOf σ js → H1 b = H b) ∧ ∀ b ∈ adOf σ js, ∃ od u, H b = some u ∧ Lk u ∧ H1 b = some (.frz od u) ∧ ∀ o' u', L.X.H_0 b ≠ some (.frz o' u')
  | [], Γ, H, _, _, _, I, st => ⟨H, I, st, Le.refl, fun _ _ => rfl, fun b hb => nomatch hb⟩
  | j :: js, Γ, H, nd, ho, hl, I, st => by
    obtain ⟨o, eo, po⟩ := ho j List.mem_cons_self
    obtain ⟨v, hv⟩ := slot_v hl eo
    have hr := st.rel _ (List.mem_append_left R (List.mem_of_getElem? (i := j) (by rw [List.getElem?_zip_eq_some]; exact ⟨hv, eo⟩) : (v, Slot.ow o) ∈ σ.zip Γ))
    obtain ⟨a, ea, qa⟩ := hr
    subst ea
    obtain ⟨a', u, e1, eu, mu, q⟩ := st.giveS hv eo
    cases e1
    have lk : Lk u := by
      cases o with
      | lst ps => obtain ⟨xs, h1, _⟩ := qa; rw [eu] at h1; cases h1; trivial
      | dK ks ps => obtain ⟨xs, h1, _⟩ := qa; rw [eu] at h1; cases h1; trivial
      | dT ks ps => obtain ⟨xs, h1, _⟩ := qa; rw [eu] at h1; cases h1; trivial
      | ins c ns ps => cases po
    obtain ⟨od, I1⟩ := I.lock eu mu
    have ndj := List.nodup_cons.mp nd
    obtain ⟨H1, I2, st2, le2, off, on⟩ := lock_all js (Γ.set j (.sh o.pv)) (upd H a (.frz od u)) ndj.2 (fun i hi => by
      obtain ⟨o', e', p'⟩ := ho i (List.mem_cons_of_mem _ hi)
      exact ⟨o', by rw [List.getElem?_set_ne (fun z : j = i => ndj.1 (by rw [z]; exact hi))]; exact e', p'⟩) (by rw [List.length_set]; exact hl) I1 (q od).1
    have ead : adOf σ (j :: js) = a :: adOf σ js := by
      unfold adOf
      rw [List.filterMap_cons, hv]
    have na : a ∉ adOf σ js := fun ha => by
      obtain ⟨od', u', e', lk', _⟩ := on a ha
      rw [upd_same] at e'
      cases e'
      exact lk'
    have hn := I.nofrz eu mu
    refine ⟨H1, I2, by rw [frzJ_cons j js Γ eo]; exact st2, (Le.write eu mu).trans le2, fun b hb => ?_, fun b hb => ?_⟩
    · rw [ead] at hb
      rw [off b (fun z => hb (List.mem_cons_of_mem _ z)), upd_ne (fun z => hb (by rw [z]; exact List.mem_cons_self))]
    · rw [ead] at hb
      rcases List.mem_cons.mp hb with rfl | hb
      · exact ⟨od, u, eu, lk, by rw [off b na, upd_same], hn⟩
      · obtain ⟨od', u', e', lk', e2, hn'⟩ := on b hb
        have hne : b ≠ a := fun z => na (z ▸ hb)
        rw [upd_ne hne] at e'
        exact ⟨od', u', e', lk', e2, hn'⟩
theorem unlock_all {H : Hp} : ∀ (as : List Addr) (H2 : Hp) (s2 : Shared), L2.Inv L.X pins σ H2 s2 → (∀ a ∈ as, (∀ o' u', L.X.H_0 a ≠ some (.frz o' u')) ∧ (H2 a = H a ∨ ∃ od u, H a = some u ∧ H2 a = some (.frz od u))) →
    ∃ H3, L2.Inv L.X pins σ H3 s2 ∧ (∀ b, b ∉ as → H3 b = H2 b) ∧ ∀ a ∈ as, H3 a = H a
  | [], H2, s2, I, _ => ⟨H2, I, fun _ _ => rfl, fun a ha => nomatch ha⟩
  | a :: as, H2, s2, I, h => by
    obtain ⟨hn, hc⟩ := h a List.mem_cons_self
    rcases hc with hc | ⟨od, u, e1, e2⟩
    · obtain ⟨H3, I3, off, on⟩ := unlock_all as H2 s2 I fun b hb => h b (List.mem_cons_of_mem _ hb)
      refine ⟨H3, I3, fun b hb => off b fun z => hb (List.mem_cons_of_mem _ z), fun b hb => ?_⟩
      rcases List.mem_cons.mp hb with rfl | hb
      · by_cases z : b ∈ as
        · exact on b z
        · rw [off b z]; exact hc
      · exact on b hb
    · have I1 := I.unlock e2 hn
      obtain ⟨H3, I3, off, on⟩ := unlock_all as (upd H2 a u) s2 I1 fun b hb => by
        obtain ⟨h1, h2⟩ := h b (List.mem_cons_of_mem _ hb)
        refine ⟨h1, ?_⟩
        by_cases z : b = a
        · subst z; exact .inl (by rw [upd_same]; exact e1.symm)
        · rw [upd_ne z]; exact h2
      refine ⟨H3, I3, fun b hb => ?_, fun b hb => ?_⟩
      · rw [off b (fun z => hb (List.mem_cons_of_mem _ z)), upd_ne (fun z => hb (by rw [z]; exact List.mem_cons_self))]
      · rcases List.mem_cons.mp hb with rfl | hb
        · by_cases z : b ∈ as
          · exact on b z
          · rw [off b z, upd_same]; exact e1.symm
        · exact on b hb
end

/-! ### values without lists in them -/
mutual
def flat : PV → Bool
  | .tup ps => flatA ps
  | .lst _ => false
  | .dK _ _ => false
  | .dT _ _ => false
  | .ins _ _ ps => flatA ps
  | _ => true
def flatA : List PV → Bool
  | [] => true
  | p :: ps => flat p && flatA ps
end
def flatO : OV → Bool
  | .lst ps => flatA ps
  | .dK _ ps => flatA ps
  | .dT _ ps => flatA ps
  | .ins _ _ ps => flatA ps
def flatS : Slot → Bool
  | .un => true
  | .sh p => flat p
  | .ow o => flatO o
section
variable {K : PySem.W.Frag} {mg : Str → Option Value} {H2 H3 : Hp} {as : List Addr}
/-- H3 is H2 with the things at as unlocked -/
structure Un3 (as : List Addr) (H2 H3 : Hp) : Prop where
  off : ∀ b, b ∉ as → H3 b = H2 b
  on : ∀ a ∈ as, ∃ od u, H2 a = some (.frz od u) ∧ Lk u
mutual
theorem Rp.un (h : Un3 as H2 H3) : ∀ (p : PV) (v : V), flat p = true → Rp K mg H2 p v → Rp K mg H3 p v
  | .non, v, _, q => q
  | .bl b, v, _, q => q
  | .int i, v, _, q => q
  | .str x, v, _, q => q
  | .tup ps, v, f, q => by
    obtain ⟨a, xs, e, h1, h2⟩ := q
    refine ⟨a, xs, e, ?_, RpA.un h ps xs f h2⟩
    rcases h1 with (h1 | ⟨o, h1⟩) | h1
    · refine .inl (.inl ?_)
      rw [h.off a fun z => by obtain ⟨od, u, e2, _⟩ := h.on a z; rw [h1] at e2; cases e2]
      exact h1
    · refine .inl (.inr ⟨o, ?_⟩)
      rw [h.off a fun z => by obtain ⟨od, u, e2, lk⟩ := h.on a z; rw [h1] at e2; cases e2; exact lk]
      exact h1
    · exact .inr h1
  | .lst ps, v, f, q => by cases f
  | .dK _ _, v, f, q => by cases f
  | .dT _ _, v, f, q => by cases f
  | .ins c ns ps, v, f, q => by
    obtain ⟨a, C, dx, fs, o, e, h0, h1, h2, h3⟩ := q
    refine ⟨a, C, dx, fs, o, e, h0, ?_, h2, RpA.un h ps _ f h3⟩
    rw [h.off a fun z => by obtain ⟨od, u, e2, lk⟩ := h.on a z; rw [h1] at e2; cases e2; exact lk]
    exact h1
theorem RpA.un (h : Un3 as H2 H3) : ∀ (ps : List PV) (xs : List V), flatA ps = true → RpA K mg H2 ps xs → RpA K mg H3 ps xs
  | [], xs, _, q => q
  | p :: ps, xs, f, q => by
    obtain ⟨x, r, e, h1, h2⟩ := q
    have f : (flat p && flatA ps) = true := f
    rw [Bool.and_eq_true] at f
    exact ⟨x, r, e, Rp.un h p x f.1 h1, RpA.un h ps r f.2 h2⟩
end
theorem OwnO.un (h : Un3 as H2 H3) {a : Addr} {o : OV} (f : flatO o = true) (q : OwnO K mg H2 a o) : OwnO K mg H3 a o := by
  have e : H3 a = H2 a := h.off a fun z => by
    obtain ⟨od, u, e2, lk⟩ := h.on a z
    obtain ⟨u', e3, m⟩ := q.mut
    rw [e2] at e3; cases e3; exact m
  cases o with
  | lst ps => obtain ⟨xs, h1, h2⟩ := q; exact ⟨xs, e.trans h1, RpA.un h _ _ f h2⟩
  | dK ks ps => obtain ⟨xs, h1, h2, h3⟩ := q; exact ⟨xs, e.trans h1, h2, RpA.un h _ _ f h3⟩
  | dT ks ps => obtain ⟨xs, h1, h2, h3⟩ := q; exact ⟨xs, e.trans h1, h2, RpA.un h _ _ f h3⟩
  | ins c ns ps => obtain ⟨C, dx, fs, h0, h1, h2, h3⟩ := q; exact ⟨C, dx, fs, h0, e.trans h1, h2, RpA.un h _ _ f h3⟩
theorem RelS.un (h : Un3 as H2 H3) {r : RS} (f : flatS r.2 = true) (q : RelS K mg H2 r) : RelS K mg H3 r := by
  obtain ⟨v, sl⟩ := r
  cases sl with
  | un => trivial
  | sh p => obtain ⟨x, e, q⟩ := q; exact ⟨x, e, Rp.un h p x f q⟩
  | ow o => obtain ⟨a, e, q⟩ := q; exact ⟨a, e, q.un h f⟩
/-- an own object, locked in a later heap, is a value -/
theorem OwnO.locked {H H1 : Hp} {a : Addr} {o : OV} {u : HO} {od : Obj} (h : OwnO K mg H a o) (l : Le H H1) (hu : H a = some u) (h1 : H1 a = some (.frz od u)) : Rp K mg H1 o.pv (.ref a) := by
  cases o with
  | lst ps =>
    obtain ⟨xs, e1, h2⟩ := h
    rw [hu] at e1; cases e1
    exact ⟨a, xs, rfl, .inl ⟨od, h1⟩, RpA.le l _ _ h2⟩
  | dK ks ps =>
    obtain ⟨kvs, e1, h2, h3⟩ := h
    rw [hu] at e1; cases e1
    exact ⟨a, kvs, od, rfl, h1, h2, RpA.le l _ _ h3⟩
  | dT ks ps =>
    obtain ⟨kvs, e1, h2, h3⟩ := h
    rw [hu] at e1; cases e1
    exact ⟨a, kvs, od, rfl, h1, h2, RpA.le l _ _ h3⟩
  | ins c ns ps =>
    obtain ⟨C, dx, fs, h0, e1, h2, h3⟩ := h
    rw [hu] at e1; cases e1
    exact ⟨a, C, dx, fs, od, rfl, h0, h1, h2, RpA.le l _ _ h3⟩
end
/-- behind a call: what it wrote (W, now W'), its result, and all the rest -/
theorem St.after {L : Lx} {W W' res Rest : List RS} {H H' : Hp} (st : St L (W ++ Rest) H) (ad : List Addr) (hW : own W = ad) (hW' : own W' = ad) (base : ∀ a o, H a = some o → a ∉ ad → H' a = some o)
    (rel : ∀ r ∈ W' ++ res, RelS L.X.K L.X.mg H' r) (nd : (own res).Nodup) (new : ∀ a ∈ own res, H a = none) (oldW : ∀ r ∈ W, ∃ a o, r = (some (.ref a), .ow o)) : St L (W' ++ (res ++ Rest)) H' := by
  have hmut : ∀ a ∈ own (W ++ Rest), ∃ u, H a = some u ∧ Mut (some u) := fun a ha => st.mut_of ha
  have adm : ∀ a ∈ ad, ∃ u, H a = some u ∧ Mut (some u) := fun a ha => hmut a (by rw [own_app, hW]; exact List.mem_append_left _ ha)
  have l : Le H H' := ⟨fun a xs e => base a _ e fun z => by obtain ⟨u, e2, m⟩ := adm a z; rw [e] at e2; cases e2; exact m, fun a o u e => base a _ e fun z => by obtain ⟨u', e2, m⟩ := adm a z; rw [e] at e2; cases e2; exact m⟩
  have ndAll : (own W ++ own Rest).Nodup := by rw [← own_app]; exact st.nd
  obtain ⟨nd1, nd2, nd3⟩ := List.nodup_append.mp ndAll
  have keepO : ∀ a ∈ own Rest, H' a = H a := fun a ha => by
    obtain ⟨u, e, _⟩ := hmut a (by rw [own_app]; exact List.mem_append_right _ ha)
    rw [e]
    exact base a u e fun z => nd3 a (by rw [hW]; exact z) a ha rfl
  have eown : own (W' ++ (res ++ Rest)) = own W ++ (own res ++ own Rest) := by rw [own_app, own_app, hW', hW]
  have lnone : ∀ a ∈ own res, a ∉ own (W ++ Rest) := fun a ha z => by
    obtain ⟨u, e, _⟩ := hmut a z
    rw [new a ha] at e; cases e
  refine ⟨fun r hr => ?_, ?_, fun a ha => ?_, fun a o h1 h2 => ?_⟩
  · rcases List.mem_append.mp hr with hr | hr
    · exact rel r (List.mem_append_left _ hr)
    · rcases List.mem_append.mp hr with hr | hr
      · exact rel r (List.mem_append_right _ hr)
      · have q := st.rel r (List.mem_append_right _ hr)
        obtain ⟨v, sl⟩ := r
        cases sl with
        | un => trivial
        | sh p => obtain ⟨x, e1, q⟩ := q; exact ⟨x, e1, Rp.le l _ _ q⟩
        | ow o =>
          obtain ⟨a, e1, q⟩ := q
          subst e1
          exact ⟨a, rfl, q.le l (keepO a (List.mem_filterMap.mpr ⟨_, hr, rfl⟩))⟩
  · rw [eown]
    refine List.nodup_append.mpr ⟨nd1, List.nodup_append.mpr ⟨nd, nd2, fun a ha b hb e => ?_⟩, fun a ha b hb e => ?_⟩
    · exact lnone a ha (by rw [own_app]; exact List.mem_append_right _ (e ▸ hb))
    · rcases List.mem_append.mp hb with hb | hb
      · exact lnone b hb (by rw [own_app]; exact List.mem_append_left _ (e ▸ ha))
      · exact nd3 a ha b hb e
  · rw [eown] at ha
    rcases List.mem_append.mp ha with ha | ha
    · exact st.nw a (by rw [own_app]; exact List.mem_append_left _ ha)
    · rcases List.mem_append.mp ha with ha | ha
      · by_cases hm : a ∈ L.M.map (·.2)
        · exact .inl hm
        · refine .inr ?_
          cases e : L.B a with
          | none => rfl
          | some o =>
            have := st.base a o e hm
            rw [new a ha] at this; cases this
      · exact st.nw a (by rw [own_app]; exact List.mem_append_right _ ha)
  · refine base a o (st.base a o h1 h2) fun z => ?_
    rcases st.nw a (by rw [own_app, hW]; exact List.mem_append_left _ z) with q | q
    · exact h2 q
    · rw [h1] at q; cases q
end Mv
end S6_

section S7_
set_option Elab.async false
set_option linter.all false
set_option maxRecDepth 100000
namespace Mv
open PySem PySem.Spec PyProof.Rows L2

/-! ### calls: mo is the place of the parameter that the def writes -/
def argSh (Γ : Env) : Opd → Option Slot
  | .val p => some (.sh p)
  | .tmp _ => none
  | .plc j =>
    match Γ[j]? with
    | some (.ow o) => if o.plain then some (.sh o.pv) else none
    | some (.sh p) => some (.sh p)
    | _ => none
def argMu (Γ : Env) : Opd → Option Slot
  | .plc j =>
    match Γ[j]? with
    | some (.ow o) => some (.ow o)
    | _ => none
  | .tmp o => some (.ow o)
  | .val _ => none
def down : Option Nat → Option Nat
  | some (m + 1) => some m
  | _ => none
def argsO (Γ : Env) : Option Nat → List Opd → Option (List Slot)
  | _, [] => some []
  | mo, d :: ds =>
    match (if mo = some 0 then argMu Γ d else argSh Γ d), argsO Γ (down mo) ds with
    | some a, some l => some (a :: l)
    | _, _ => none
def ownJ (Γ : Env) : Opd → Option Nat
  | .plc j =>
    match Γ[j]? with
    | some (.ow _) => some j
    | _ => none
  | _ => none
def jsO (Γ : Env) : Option Nat → List Opd → List Nat
  | _, [] => []
  | mo, d :: ds => (if mo = some 0 then [] else (ownJ Γ d).toList) ++ jsO Γ (down mo) ds
def mOpd (mo : Option Nat) (ds : List Opd) : Option Opd := mo.bind fun m => ds[m]?
def jsOk (mo : Option Nat) (ds : List Opd) (js : List Nat) : Bool :=
  decide js.Nodup && match mOpd mo ds with
    | some (.plc j) => !js.contains j
    | _ => true
def putO (mo : Option Nat) (ds : List Opd) (outs : List OV) (Γ : Env) : Env :=
  match mOpd mo ds, outs with
  | some (.plc j), [o] => Γ.set j (.ow o)
  | _, _ => Γ
def resR (r : Slot) (Γ : Env) : Rs Opd :=
  match r with
  | .sh p => .ok (.val p) Γ
  | .ow o => .ok (.tmp o) Γ
  | .un => .no
def callS (mo : Option Nat) (F : FSem) (ds : List Opd) (Γ : Env) : Rs Opd :=
  match argsO Γ mo ds with
  | none => .no
  | some args =>
    if jsOk mo ds (jsO Γ mo ds) then
      match F args with
      | .ret r outs => if flatS r && outs.all flatO then resR r (putO mo ds outs Γ) else resR r (putO mo ds outs (frzJ (jsO Γ mo ds) Γ))
      | .ex e outs => .ex e (putO mo ds outs (frzJ (jsO Γ mo ds) Γ))
      | .no => .no
    else .no
def fC (mo : Option Nat) (F : FSem) (a : ASem) : ESem := fun Γ => (a Γ).bind (callS mo F)

theorem down_eq {mo : Option Nat} {i : Nat} : (down mo = some i) = (mo = some (i + 1)) := by
  cases mo with
  | none => simp [down]
  | some m =>
    cases m with
    | zero => simp [down]
    | succ m => simp [down]
theorem argsO_at {Γ : Env} : ∀ {ds : List Opd} {mo : Option Nat} {args : List Slot}, argsO Γ mo ds = some args → args.length = ds.length ∧ ∀ (i : Nat) d, ds[i]? = some d → ∃ a, args[i]? = some a ∧ (if mo = some i then argMu Γ d else argSh Γ d) = some a
  | [], mo, args, h => by
    cases h
    exact ⟨rfl, fun i d e => by simp at e⟩
  | d :: ds, mo, args, h => by
    unfold argsO at h
    cases e1 : (if mo = some 0 then argMu Γ d else argSh Γ d) with
    | none => rw [e1] at h; cases h
    | some a =>
      cases e2 : argsO Γ (down mo) ds with
      | none => rw [e1, e2] at h; cases h
      | some l =>
        rw [e1, e2] at h
        cases h
        obtain ⟨l1, l2⟩ := argsO_at e2
        refine ⟨by rw [List.length_cons, List.length_cons, l1], fun i d' e => ?_⟩
        cases i with
        | zero => simp at e; subst e; exact ⟨a, rfl, e1⟩
        | succ i =>
          obtain ⟨a', h1, h2⟩ := l2 i d' (by simpa using e)
          refine ⟨a', by simpa using h1, ?_⟩
          simp only [down_eq] at h2
          exact h2
theorem jsO_mem {Γ : Env} : ∀ {ds : List Opd} {mo : Option Nat} {j : Nat}, j ∈ jsO Γ mo ds ↔ ∃ (i : Nat) (d : Opd), ds[i]? = some d ∧ mo ≠ some i ∧ ownJ Γ d = some j
  | [], mo, j => by simp [jsO]
  | d :: ds, mo, j => by
    unfold jsO
    rw [List.mem_append, jsO_mem (ds := ds)]
    constructor
    · rintro (h | ⟨i, d', h1, h2, h3⟩)
      · split at h
        · cases h
        · rename_i hm
          refine ⟨0, d, rfl, hm, ?_⟩
          simpa [eq_comm] using h
      · refine ⟨i + 1, d', by simpa using h1, ?_, h3⟩
        intro z
        exact h2 (by rw [down_eq]; exact z)
    · rintro ⟨i, d', h1, h2, h3⟩
      cases i with
      | zero =>
        simp at h1
        subst h1
        refine .inl ?_
        rw [if_neg h2]
        simp [h3]
      | succ i => exact .inr ⟨i, d', by simpa using h1, fun z => h2 (by rw [down_eq] at z; exact z), h3⟩
theorem ownJ_some {Γ : Env} {d : Opd} {j : Nat} (h : ownJ Γ d = some j) : d = .plc j ∧ ∃ o, Γ[j]? = some (.ow o) := by
  cases d with
  | val p => cases h
  | tmp o => cases h
  | plc i =>
    unfold ownJ at h
    simp only at h
    split at h
    · rename_i o e
      cases h
      exact ⟨rfl, o, e⟩
    · cases h

section
variable {L : Lx} {σ : L2.St} {R T : List RS} {pins : List (Addr × Obj)} {s : Shared} {Γ : Env} {ds : List Opd} {vs : List V} {mo : Option Nat} {H H1 : Hp}
theorem adOf_mem {js : List Nat} {a : Addr} : a ∈ adOf σ js ↔ ∃ j ∈ js, σ[j]? = some (some (.ref a)) := by
  unfold adOf
  rw [List.mem_filterMap]
  constructor
  · rintro ⟨j, hj, e⟩
    refine ⟨j, hj, ?_⟩
    split at e
    · rename_i b eb; cases e; exact eb
    · cases e
  · rintro ⟨j, hj, e⟩
    exact ⟨j, hj, by rw [e]⟩
/-- the arguments as the callee finds them -/
theorem args_rel {args : List Slot} (ea : argsO Γ mo ds = some args) (st : St L (σ.zip Γ ++ R) H) (hl : Γ.length = σ.length) (len : vs.length = ds.length) (has : ∀ (i : Nat) d v, ds[i]? = some d → vs[i]? = some v → Has σ R d v)
    (le : Le H H1) (off : ∀ b, b ∉ adOf σ (jsO Γ mo ds) → H1 b = H b) (on : ∀ b ∈ adOf σ (jsO Γ mo ds), ∃ od u, H b = some u ∧ H1 b = some (.frz od u)) (dis : ∀ m j, mo = some m → ds[m]? = some (.plc j) → j ∉ jsO Γ mo ds) :
    (∀ r ∈ (vs.map some).zip args, RelS L.X.K L.X.mg H1 r) ∧ (∀ (i : Nat) o, args[i]? = some (.ow o) → mo = some i) ∧
      ∀ (i : Nat) o, args[i]? = some (.ow o) → ∃ a, vs[i]? = some (.ref a) ∧ OwnO L.X.K L.X.mg H a o ∧ (some (V.ref a), Slot.ow o) ∈ σ.zip Γ ++ R ∧ a ∉ adOf σ (jsO Γ mo ds) := by
  obtain ⟨l1, l2⟩ := argsO_at ea
  have shNo : ∀ d o, argSh Γ d ≠ some (.ow o) := fun d o h => by
    cases d with
    | val p => cases h
    | tmp p => cases h
    | plc j =>
      simp only [argSh] at h
      split at h
      · split at h <;> cases h
      · cases h
      · cases h
  have muA : ∀ (i : Nat) d v o, mo = some i → ds[i]? = some d → vs[i]? = some v → argMu Γ d = some (.ow o) → ∃ a, v = .ref a ∧ OwnO L.X.K L.X.mg H a o ∧ (some (V.ref a), Slot.ow o) ∈ σ.zip Γ ++ R ∧ a ∉ adOf σ (jsO Γ mo ds) := fun i d v o hm hd hv h => by
    have hs := has i d v hd hv
    have ok : ∃ a, v = .ref a ∧ OwnO L.X.K L.X.mg H a o ∧ (some (V.ref a), Slot.ow o) ∈ σ.zip Γ ++ R ∧ ∀ j, d = .plc j → σ[j]? = some (some (.ref a)) ∧ Γ[j]? = some (.ow o) := by
      cases d with
      | val p => cases h
      | tmp p =>
        cases h
        have hm : (some v, Slot.ow o) ∈ σ.zip Γ ++ R := List.mem_append_right _ hs
        obtain ⟨a, e, q⟩ := st.rel _ hm
        cases e
        exact ⟨a, rfl, q, hm, fun j z => nomatch z⟩
      | plc j =>
        simp only [argMu] at h
        split at h
        · rename_i o' e'
          cases h
          have hs : σ[j]? = some (some v) := hs
          have hm : (some v, Slot.ow o) ∈ σ.zip Γ ++ R := List.mem_append_left _ (zip_mem hs e')
          obtain ⟨a, e, q⟩ := st.rel _ hm
          cases e
          exact ⟨a, rfl, q, hm, fun j' z => by cases z; exact ⟨hs, e'⟩⟩
        · cases h
    obtain ⟨a, e, q, hm', hj⟩ := ok
    refine ⟨a, e, q, hm', fun ha => ?_⟩
    obtain ⟨j, hj', ej⟩ := adOf_mem.mp ha
    obtain ⟨i', d', e1, e2, e3⟩ := jsO_mem.mp hj'
    obtain ⟨e4, o4, e5⟩ := ownJ_some e3
    have hz := zip_at ej e5
    have hlt : j < (σ.zip Γ).length := (List.getElem?_eq_some_iff.mp hz).1
    cases d with
    | val p => cases h
    | tmp p =>
      cases h
      obtain ⟨n, en⟩ := List.mem_iff_getElem?.mp (show (some v, Slot.ow o) ∈ R from hs)
      subst e
      have := own_inj st.nd (i := j) (j := (σ.zip Γ).length + n) (by rw [List.getElem?_append_left hlt]; exact hz) (by rw [List.getElem?_append_right (by omega), Nat.add_sub_cancel_left]; exact en) rfl rfl
      omega
    | plc j2 =>
      obtain ⟨f1, f2⟩ := hj j2 rfl
      have hz2 := zip_at f1 f2
      have hlt2 : j2 < (σ.zip Γ).length := (List.getElem?_eq_some_iff.mp hz2).1
      have := own_inj st.nd (i := j) (j := j2) (by rw [List.getElem?_append_left hlt]; exact hz) (by rw [List.getElem?_append_left hlt2]; exact hz2) rfl rfl
      exact dis i j2 hm hd (this ▸ hj')
  have at' : ∀ (i : Nat) a, args[i]? = some a → ∃ d v, ds[i]? = some d ∧ vs[i]? = some v ∧ (if mo = some i then argMu Γ d else argSh Γ d) = some a := fun i a e => by
    have hi : i < ds.length := by rw [← l1]; exact (List.getElem?_eq_some_iff.mp e).1
    obtain ⟨a', h1, h2⟩ := l2 i _ (List.getElem?_eq_getElem hi)
    rw [e] at h1; cases h1
    exact ⟨_, _, List.getElem?_eq_getElem hi, List.getElem?_eq_getElem (by omega), h2⟩
  refine ⟨fun r hr => ?_, fun i o e => ?_, fun i o e => ?_⟩
  · obtain ⟨i, hi⟩ := List.mem_iff_getElem?.mp hr
    rw [List.getElem?_zip_eq_some] at hi
    obtain ⟨d, v, ed, ev, ea'⟩ := at' i r.2 hi.2
    have e1 : r.1 = some v := by
      have := hi.1
      rw [List.getElem?_map, ev] at this
      exact (Option.some.inj this).symm
    obtain ⟨r1, r2⟩ := r
    have e1 : r1 = some v := e1
    subst e1
    by_cases hm : mo = some i
    · rw [if_pos hm] at ea'
      cases r2 with
      | un => trivial
      | sh p =>
        exfalso
        cases d with
        | val p => cases ea'
        | tmp p => cases ea'
        | plc j => simp only [argMu] at ea'; split at ea' <;> cases ea'
      | ow o =>
        obtain ⟨a, e, q, _, na⟩ := muA i d v o hm ed ev ea'
        subst e
        exact ⟨a, rfl, q.le le (off a na)⟩
    · rw [if_neg hm] at ea'
      have hs := has i d v ed ev
      cases d with
      | val p =>
        cases ea'
        obtain ⟨x, e, q⟩ := st.rel (some v, .sh p) (List.mem_append_right _ hs)
        cases e
        exact ⟨v, rfl, Rp.le le _ _ q⟩
      | tmp p => cases ea'
      | plc j =>
        have hs : σ[j]? = some (some v) := hs
        simp only [argSh] at ea'
        split at ea'
        · rename_i o e'
          split at ea'
          · cases ea'
            obtain ⟨a, e, q⟩ := st.rel (some v, .ow o) (List.mem_append_left _ (zip_mem hs e'))
            cases e
            have hj : j ∈ jsO Γ mo ds := jsO_mem.mpr ⟨i, _, ed, hm, by simp only [ownJ, e']⟩
            obtain ⟨od, u, eu, e1⟩ := on a (adOf_mem.mpr ⟨j, hj, hs⟩)
            exact ⟨_, rfl, q.locked le eu e1⟩
          · cases ea'
        · rename_i p e'
          cases ea'
          exact ⟨v, rfl, Rp.le le _ _ (st.valS hs e')⟩
        · cases ea'
  · obtain ⟨d, v, ed, ev, ea'⟩ := at' i _ e
    by_cases hm : mo = some i
    · exact hm
    · rw [if_neg hm] at ea'
      exact absurd ea' (shNo d o)
  · obtain ⟨d, v, ed, ev, ea'⟩ := at' i _ e
    by_cases hm : mo = some i
    · rw [if_pos hm] at ea'
      obtain ⟨a, e1, q⟩ := muA i d v o hm ed ev ea'
      exact ⟨a, by rw [ev, e1], q⟩
    · rw [if_neg hm] at ea'
      exact absurd ea' (shNo d o)

theorem resR_go {r : Slot} {Γ' : Env} {v : V} {H' : Hp} {Q : VK} (hl : Γ'.length = σ.length) (st : St L (σ.zip Γ' ++ ([(some v, r)] ++ T)) H') (q : Pst L σ T (resR r Γ') fun d Γ' => ∀ v H', OpP L σ Γ' T d v H' → Q v H') : Q v H' := by
  cases r with
  | un => exact q.elim
  | sh p => exact q hl v H' ⟨st, fun i z => nomatch z⟩
  | ow o => exact q hl v H' ⟨st, fun i z => nomatch z⟩
/-- behind the call: the written thing back in its slot -/
theorem put_go {outs : List OV} {res : List RS} {Γ0 : Env} {H0 H' : Hp} (hl : Γ0.length = σ.length) (st : St L (σ.zip Γ0 ++ R) H0) (hT : T.Sublist R) (len : vs.length = ds.length)
    (has : ∀ (i : Nat) d v, ds[i]? = some d → vs[i]? = some v → Has σ R d v) (hm : ∀ m, mo = some m → ∃ d o, ds[m]? = some d ∧ argMu Γ0 d = some (.ow o))
    (tmpR : ∀ m o v, mo = some m → ds[m]? = some (.tmp o) → vs[m]? = some v → ∃ R', R.Perm ((some v, .ow o) :: R') ∧ T.Sublist R')
    (base : ∀ a o, H0 a = some o → a ∉ (mAd mo.toList vs).map (·.2) → H' a = some o) (ol : outs.length = (mAd mo.toList vs).length) (rel : ∀ r ∈ outRS (mAd mo.toList vs) outs ++ res, RelS L.X.K L.X.mg H' r) (nd : (own res).Nodup) (new : ∀ a ∈ own res, H0 a = none) :
    St L (σ.zip (putO mo ds outs Γ0) ++ (res ++ T)) H' := by
  cases mo with
  | none =>
    have e0 : mAd (none : Option Nat).toList vs = [] := rfl
    rw [e0] at base rel ol
    have e1 : putO none ds outs Γ0 = Γ0 := rfl
    rw [e1]
    have s1 : St L ([] ++ (σ.zip Γ0 ++ T)) H0 := st.sub (by rw [List.nil_append]; exact List.Sublist.append (List.Sublist.refl _) hT)
    have s2 := s1.after (W' := []) (res := res) (H' := H') [] rfl rfl (fun a o h _ => base a o h (by simp)) (fun r hr => rel r (by simpa [outRS] using hr)) nd new (fun r hr => nomatch hr)
    refine s2.perm ?_
    rw [List.nil_append, ← List.append_assoc, ← List.append_assoc]
    exact (List.perm_append_comm).append_right T
  | some m =>
    obtain ⟨d, o, ed, em⟩ := hm m rfl
    have hlt : m < ds.length := (List.getElem?_eq_some_iff.mp ed).1
    have ev : vs[m]? = some vs[m] := List.getElem?_eq_getElem (by omega)
    have hs := has m d vs[m] ed ev
    cases d with
    | val p => cases em
    | tmp o' =>
      cases em
      obtain ⟨R', p1, p2⟩ := tmpR m o _ rfl ed ev
      have hr : (some vs[m], Slot.ow o) ∈ σ.zip Γ0 ++ R := List.mem_append_right _ hs
      obtain ⟨a, e, qa⟩ := st.rel _ hr
      have e : vs[m] = .ref a := Option.some.inj e
      have ead : mAd (some m).toList vs = [(m, a)] := by
        show (List.filterMap (mAt vs) [m]) = _
        rw [List.filterMap_cons]
        unfold mAt
        rw [ev, e]
        rfl
      rw [ead] at base rel ol
      obtain ⟨o2, rfl⟩ : ∃ o2, outs = [o2] := by
        cases outs with
        | nil => cases ol
        | cons x r =>
          cases r with
          | nil => exact ⟨x, rfl⟩
          | cons y r => simp at ol
      have e1 : putO (some m) ds [o2] Γ0 = Γ0 := by
        unfold putO mOpd
        simp only [Option.bind_some, ed]
      rw [e1]
      have s1 : St L ([(some (V.ref a), Slot.ow o)] ++ (σ.zip Γ0 ++ T)) H0 := by
        have q1 : St L ((some (V.ref a), Slot.ow o) :: (σ.zip Γ0 ++ R')) H0 := by
          rw [← e]
          exact st.perm ((p1.append_left (σ.zip Γ0)).trans List.perm_middle)
        exact q1.sub ((List.Sublist.append (List.Sublist.refl _) p2).cons_cons _)
      have s2 := s1.after (W' := [(some (V.ref a), Slot.ow o2)]) (res := res) (H' := H') [a] (own_ow _ _ _) (own_ow _ _ _) (fun b ob h hn => base b ob h (by simpa using hn)) (fun r hr => rel r (by simpa [outRS] using hr)) nd new (fun r hr => ⟨a, o, List.mem_singleton.mp hr⟩)
      refine (s2.tail).perm ?_
      show ([] ++ (res ++ (σ.zip Γ0 ++ T))).Perm _
      rw [List.nil_append, ← List.append_assoc, ← List.append_assoc]
      exact (List.perm_append_comm).append_right T
    | plc j =>
      simp only [argMu] at em
      split at em
      · rename_i o' e'
        cases em
        have hs : σ[j]? = some (some vs[m]) := hs
        obtain ⟨rs, p1, p2⟩ := zip_front hs e'
        have hr : (some vs[m], Slot.ow o) ∈ σ.zip Γ0 ++ R := List.mem_append_left _ (zip_mem hs e')
        obtain ⟨a, e, qa⟩ := st.rel _ hr
        have e : vs[m] = .ref a := Option.some.inj e
        have ead : mAd (some m).toList vs = [(m, a)] := by
          show (List.filterMap (mAt vs) [m]) = _
          rw [List.filterMap_cons]
          unfold mAt
          rw [ev, e]
          rfl
        rw [ead] at base rel ol
        obtain ⟨o2, rfl⟩ : ∃ o2, outs = [o2] := by
          cases outs with
          | nil => cases ol
          | cons x r =>
            cases r with
            | nil => exact ⟨x, rfl⟩
            | cons y r => simp at ol
        have e1 : putO (some m) ds [o2] Γ0 = Γ0.set j (.ow o2) := by
          unfold putO mOpd
          simp only [Option.bind_some, ed]
        rw [e1]
        rw [e] at p1 hs
        have s1 : St L ([(some (V.ref a), Slot.ow o)] ++ (rs ++ T)) H0 := (st.perm (p1.append_right R)).sub (((List.Sublist.append (List.Sublist.refl _) hT)).cons_cons _)
        have s2 := s1.after (W' := [(some (V.ref a), Slot.ow o2)]) (res := res) (H' := H') [a] (own_ow _ _ _) (own_ow _ _ _) (fun b ob h hn => base b ob h (by simpa using hn)) (fun r hr => rel r (by simpa [outRS] using hr)) nd new (fun r hr => ⟨a, o, List.mem_singleton.mp hr⟩)
        have p3 := p2 (some (.ref a)) (.ow o2)
        rw [set_self hs] at p3
        refine s2.perm ?_
        have p4 : (σ.zip (Γ0.set j (.ow o2)) ++ (res ++ T)).Perm ((some (V.ref a), Slot.ow o2) :: (rs ++ (res ++ T))) := p3.append_right _
        refine List.Perm.trans ?_ p4.symm
        refine List.Perm.cons _ ?_
        show (res ++ (rs ++ T)).Perm (rs ++ (res ++ T))
        rw [← List.append_assoc, ← List.append_assoc]
        exact (List.perm_append_comm).append_right T
      · cases em
end
end Mv
end S7_

section S8_
set_option Elab.async false
set_option linter.all false
set_option maxRecDepth 100000
namespace Mv
open PySem PySem.Spec PyProof.Rows L2
section
variable {L : Lx} {σ : L2.St} {R T : List RS} {pins : List (Addr × Obj)} {s : Shared} {Γ : Env} {ds : List Opd} {vs : List V} {us : List Value} {mo : Option Nat} {H : Hp} {k : Nat} {f : Addr} {fd : FuncData} {ps : List Str} {F : FSem}

theorem mAd_of {mo : Option Nat} {vs : List V} (h : ∀ m, mo = some m → ∃ a, vs[m]? = some (.ref a)) : (mAd mo.toList vs).length = mo.toList.length := by
  cases mo with
  | none => rfl
  | some m =>
    obtain ⟨a, ea⟩ := h m rfl
    show (List.filterMap (mAt vs) [m]).length = 1
    rw [List.filterMap_cons]
    unfold mAt
    rw [ea]
    rfl
theorem nodup_one {rs : List RS} {m : Nat} (h : ∀ (i : Nat) r, rs[i]? = some r → (ownAt r).isSome = true → i = m) : (own rs).Nodup := by
  have : rs.Pairwise fun x y => ∀ a, ownAt x = some a → ∀ b, ownAt y = some b → a ≠ b := by
    rw [List.pairwise_iff_getElem]
    intro i j hi hj hlt a ha b hb
    have h1 := h i _ (List.getElem?_eq_getElem hi) (by rw [ha]; rfl)
    have h2 := h j _ (List.getElem?_eq_getElem hj) (by rw [hb]; rfl)
    omega
  exact List.pairwise_filterMap.mpr this
theorem Passes.go {X : Cx} {E : XK} (hx : Passes (L2.CX X.prog X.w) X E) {E' : XK} {pins : List (Addr × Obj)} {σ : L2.St} {H : Hp} {s : Shared} {e : Value} {s' : Shared} (I : L2.Inv X pins σ H s) (h : L2.CX X.prog X.w X.stack H s E' e s') (hE : ∀ C d H', E' C d H' → E C d H') : X.xe e s' := by
  refine hx pins σ H s e s' I ?_
  obtain ⟨a, B, H', cls, d, h1, h2, h3, h4, h5, h6, h7, h8⟩ := h
  exact ⟨a, B, H', cls, d, h1, h2, h3, h4, h5, h6, h7, hE _ _ _ h8⟩

/-- THE CALL, the arguments known -/
theorem call_core {args : Args} (FG : FnG L.X.prog L.X.w L.X.K L.X.mg L.X.base k f fd ps (spF L.X.K L.X.mg mo.toList ps.length F)) (hr : RoomG k L.X.A) (hx : Passes (L2.CX L.X.prog L.X.w) L.X L.E)
    (I : L2.Inv L.X pins σ H s) (hl : Γ.length = σ.length) (st : St L (σ.zip Γ ++ R) H) (hT : T.Sublist R) (len : vs.length = ds.length) (lps : vs.length = ps.length) (has : ∀ (i : Nat) d v, ds[i]? = some d → vs[i]? = some v → Has σ R d v)
    (tmpR : ∀ m o v, mo = some m → ds[m]? = some (.tmp o) → vs[m]? = some v → ∃ R', R.Perm ((some v, .ow o) :: R') ∧ T.Sublist R') (hm0 : ∀ m, mo = some m → m < ps.length)
    (rv : Vals vs us) (hb : BindsTo s fd args (ps.zip us)) {Q : VK} (q : Pst L σ T (callS mo F ds Γ) fun d Γ' => ∀ v H', OpP L σ Γ' T d v H' → Q v H') :
    wpAny (model L.X.prog L.X.w) L.X.A (call (.ref f) args.pos args.kw) (EP L.X pins σ Q) L.X.xe s := by
  unfold callS at q
  cases ea : argsO Γ mo ds with
  | none => rw [ea] at q; exact q.elim
  | some as =>
    rw [ea] at q
    simp only at q
    have hj : jsOk mo ds (jsO Γ mo ds) = true := Classical.byContradiction fun hj => by
      rw [if_neg hj] at q; exact q.elim
    rw [if_pos hj] at q
    generalize ejs : jsO Γ mo ds = js at q hj
    have hj2 : js.Nodup ∧ ∀ j, mOpd mo ds = some (.plc j) → j ∉ js := by
      unfold jsOk at hj
      rw [Bool.and_eq_true, decide_eq_true_eq] at hj
      refine ⟨hj.1, fun j e => ?_⟩
      have := hj.2
      rw [e] at this
      simpa using this
    obtain ⟨al, aat⟩ := argsO_at ea
    -- what is locked
    have hown : ∀ j ∈ js, ∃ o, Γ[j]? = some (.ow o) ∧ o.plain = true := fun j hj' => by
      rw [← ejs] at hj'
      obtain ⟨i, d, e1, e2, e3⟩ := jsO_mem.mp hj'
      obtain ⟨e4, o, e5⟩ := ownJ_some e3
      obtain ⟨a, _, e6⟩ := aat i d e1
      rw [if_neg e2, e4] at e6
      simp only [argSh, e5] at e6
      refine ⟨o, e5, ?_⟩
      split at e6
      · assumption
      · cases e6
    obtain ⟨H1, I1, st1, le1, off1, on1⟩ := lock_all (R := R) js Γ H hj2.1 hown hl I st
    have dis : ∀ m j, mo = some m → ds[m]? = some (.plc j) → j ∉ jsO Γ mo ds := fun m j e1 e2 => by
      rw [ejs]
      refine hj2.2 j ?_
      unfold mOpd
      rw [e1]
      exact e2
    obtain ⟨rel, how, hows⟩ := args_rel (H1 := H1) ea st hl len has le1 (by rw [ejs]; exact off1) (by rw [ejs]; exact fun b hb => by obtain ⟨od, u, h1, _, h2, _⟩ := on1 b hb; exact ⟨od, u, h1, h2⟩) dis
    have hmo : ∀ m, mo = some m → ∃ o, as[m]? = some (.ow o) := fun m e => by
      have hlt : m < ds.length := by have := hm0 m e; omega
      obtain ⟨a, h1, h2⟩ := aat m _ (List.getElem?_eq_getElem hlt)
      rw [if_pos e] at h2
      cases hd : ds[m] with
      | val p => rw [hd] at h2; cases h2
      | tmp o => rw [hd] at h2; cases h2; exact ⟨o, h1⟩
      | plc j =>
        rw [hd] at h2
        simp only [argMu] at h2
        split at h2
        · cases h2; exact ⟨_, h1⟩
        · cases h2
    have hmA : ∀ m, mo = some m → ∃ a, vs[m]? = some (.ref a) := fun m e => by
      obtain ⟨o, eo⟩ := hmo m e
      obtain ⟨a, h, _⟩ := hows m o eo
      exact ⟨a, h⟩
    have hmD : ∀ Γ0 : Env, (∀ j, mOpd mo ds = some (.plc j) → Γ0[j]? = Γ[j]?) → ∀ m, mo = some m → ∃ d o, ds[m]? = some d ∧ argMu Γ0 d = some (.ow o) := fun Γ0 h0 m e => by
      have hlt : m < ds.length := by have := hm0 m e; omega
      have ed : ds[m]? = some ds[m] := List.getElem?_eq_getElem hlt
      obtain ⟨a, h1, h2⟩ := aat m _ ed
      rw [if_pos e] at h2
      refine ⟨ds[m], ?_⟩
      cases hd : ds[m] with
      | val p => rw [hd] at h2; cases h2
      | tmp o => exact ⟨o, by rw [ed, hd], rfl⟩
      | plc j =>
        rw [hd] at h2
        simp only [argMu] at h2
        have e3 : Γ0[j]? = Γ[j]? := h0 j (by unfold mOpd; rw [e]; show ds[m]? = _; rw [ed, hd])
        split at h2
        · rename_i o e'
          exact ⟨o, by rw [ed, hd], by simp only [argMu, e3, e']⟩
        · cases h2
    -- the written object is not locked
    have adm : ∀ a ∈ (mAd mo.toList vs).map (·.2), a ∉ adOf σ js ∧ ∃ u, H a = some u ∧ Mut (some u) := fun a ha => by
      obtain ⟨p, hp, e⟩ := List.mem_map.mp ha
      obtain ⟨m, hm, e2⟩ := List.mem_filterMap.mp hp
      have hm : mo = some m := by
        cases mo with
        | none => cases hm
        | some m' => rw [List.mem_singleton.mp (show m ∈ [m'] from hm)]
      obtain ⟨o, eo⟩ := hmo m hm
      obtain ⟨b, h1, h2, h3, h4⟩ := hows m o eo
      unfold mAt at e2
      rw [h1] at e2
      cases e2
      have e : b = a := e
      subst e
      rw [ejs] at h4
      exact ⟨h4, h2.mut⟩
    have nodupA : (own ((vs.map some).zip as)).Nodup := by
      refine nodup_one (m := mo.getD 0) fun i r hi ho => ?_
      rw [List.getElem?_zip_eq_some] at hi
      obtain ⟨r1, r2⟩ := r
      cases r2 with
      | un => cases r1 with
        | none => cases ho
        | some v => cases v <;> cases ho
      | sh p => cases r1 with
        | none => cases ho
        | some v => cases v <;> cases ho
      | ow o => rw [how i o hi.2]; rfl
    -- the ends
    have endBase : ∀ {outs : List OV} {res : List RS} {H2 : Hp}, Aft L.X.K L.X.mg H1 (mAd mo.toList vs) outs res H2 → St L (σ.zip (putO mo ds outs (frzJ js Γ)) ++ (res ++ T)) H2 := fun {outs res H2} A =>
      put_go (by rw [frzJ_len]; exact hl) st1 hT len has (hmD _ fun j e => frzJ_off js Γ j (hj2.2 j e)) tmpR A.base A.len A.rel A.nd A.new
    have hput : ∀ (outs : List OV) (Γ0 : Env), Γ0.length = σ.length → (putO mo ds outs Γ0).length = σ.length := fun outs Γ0 h => by
      unfold putO
      split
      · rw [List.length_set]; exact h
      · exact h
    have spr : ∀ (Q' : VK) (E' : XK), (match F as with
        | .ret r outs => ∀ v H', Aft L.X.K L.X.mg H1 (mAd mo.toList vs) outs [(some v, r)] H' → Q' v H'
        | .ex e outs => ∀ C d H', Aft L.X.K L.X.mg H1 (mAd mo.toList vs) outs [] H' → ExG L.X.K L.X.mg e C d H' → E' C d H'
        | .no => False) → spF L.X.K L.X.mg mo.toList ps.length F vs H1 Q' E' := fun Q' E' h => by
      refine ⟨lps, as, by omega, rel, nodupA, fun i o e => ?_, fun i hi => ?_, h⟩
      · rw [how i o e]; exact List.mem_singleton.mpr rfl
      · have : mo = some i := by
          cases mo with
          | none => cases hi
          | some m' => rw [List.mem_singleton.mp (show i ∈ [m'] from hi)]
        exact hmo i this
    -- what follows the call in the locked heap
    let Qm : VK := fun v H2 => ∃ outs r, F as = .ret r outs ∧ Aft L.X.K L.X.mg H1 (mAd mo.toList vs) outs [(some v, r)] H2
    let Em : XK := fun C d H2 => ∃ outs e, F as = .ex e outs ∧ Aft L.X.K L.X.mg H1 (mAd mo.toList vs) outs [] H2 ∧ ExG L.X.K L.X.mg e C d H2
    have hsp : spF L.X.K L.X.mg mo.toList ps.length F vs H1 Qm Em := spr Qm Em (by
      cases eF : F as with
      | ret r outs => exact fun v H' A => ⟨outs, r, eF, A⟩
      | ex e outs => exact fun C d H' A x => ⟨outs, e, eF, A, x⟩
      | no => rw [eF] at q; exact q.elim)
    refine wpAny_call (codeAny_mono (FG.go L.X.A L.X.stack s H1 ⟨args.pos, args.kw⟩ us vs Qm Em hr I1.env0 hb rv hsp) fun r s' hq => ?_)
    cases r with
    | error e =>
      refine Passes.go hx I1 hq fun C d H2 ⟨outs, x, eF, A, ex⟩ => ?_
      rw [eF] at q
      have st2 := endBase A
      exact q C d H2 (hput _ _ (by rw [frzJ_len]; exact hl)) st2 ex
    | ok fl =>
      cases fl with
      | next => exact False.elim hq
      | brk => exact False.elim hq
      | cont => exact False.elim hq
      | ret u =>
        obtain ⟨v, H2, I2, rvu, outs, r, eF, A⟩ := I1.after hq
        rw [eF] at q
        simp only at q
        by_cases hf : (flatS r && outs.all flatO) = false
        · rw [if_neg (by rw [hf]; decide)] at q
          have st2 := endBase A
          exact ⟨v, H2, I2, rvu, resR_go (hput _ _ (by rw [frzJ_len]; exact hl)) st2 q⟩
        · have hf : (flatS r && outs.all flatO) = true := by simpa using hf
          rw [if_pos hf] at q
          rw [Bool.and_eq_true] at hf
          -- unlock
          have c2 : ∀ a ∈ adOf σ js, ∃ od u, H a = some u ∧ Lk u ∧ H2 a = some (.frz od u) ∧ ∀ o' u', L.X.H_0 a ≠ some (.frz o' u') := fun a ha => by
            obtain ⟨od, u, h1, h2, h3, h4⟩ := on1 a ha
            exact ⟨od, u, h1, h2, A.base a _ h3 (fun z => (adm a z).1 ha), h4⟩
          obtain ⟨H3, I3, off3, on3⟩ := unlock_all (H := H) (adOf σ js) H2 s' I2 fun a ha => by
            obtain ⟨od, u, h1, h2, h3, h4⟩ := c2 a ha
            exact ⟨h4, .inr ⟨od, u, h1, h3⟩⟩
          have un3 : Un3 (adOf σ js) H2 H3 := ⟨off3, fun a ha => by obtain ⟨od, u, h1, h2, h3, _⟩ := c2 a ha; exact ⟨od, u, h3, h2⟩⟩
          have st3 : St L (σ.zip (putO mo ds outs Γ) ++ ([(some v, r)] ++ T)) H3 := by
            refine put_go hl st hT len has (hmD _ fun j e => rfl) tmpR (fun a o h1 h2 => ?_) A.len (fun z hz => ?_) A.nd (fun a ha => ?_)
            · by_cases ha : a ∈ adOf σ js
              · rw [on3 a ha]; exact h1
              · rw [off3 a ha]
                exact A.base a o (by rw [off1 a ha]; exact h1) h2
            · refine RelS.un un3 ?_ (A.rel z hz)
              rcases List.mem_append.mp hz with hz | hz
              · obtain ⟨p, hp, e⟩ := List.mem_map.mp hz
                rw [← e]
                exact List.all_eq_true.mp hf.2 p.2 (List.of_mem_zip hp).2
              · rw [List.mem_singleton.mp hz]; exact hf.1
            · have h1 := A.new a ha
              by_cases hm : a ∈ adOf σ js
              · obtain ⟨od, u, _, _, h3, _⟩ := on1 a hm
                rw [h1] at h3; cases h3
              · rw [← off1 a hm]; exact h1
          exact ⟨v, H3, I3, rvu, resR_go (hput _ _ hl) st3 q⟩
end

/-! ### the forms of calls -/
section
variable {L : Lx} {mo : Option Nat} {k : Nat} {f : Addr} {fd : FuncData} {ps ks : List Str} {F : FSem} {x : Str} {p pos : Pos} {e : Expr} {es : List Expr} {kws : List Keyword} {fs : List ESem}
theorem pshs_split : ∀ {ds : List Opd} {vs : List V} {T : List RS} {m : Nat} {o : OV} {v : V}, ds[m]? = some (.tmp o) → vs[m]? = some v → ∃ R', (pshs ds vs T).Perm ((some v, .ow o) :: R') ∧ T.Sublist R'
  | [], vs, T, m, o, v, h, _ => by simp at h
  | d :: ds, [], T, m, o, v, _, h => by simp at h
  | d :: ds, w :: vs, T, 0, o, v, h, h' => by
    simp at h h'
    subst h h'
    -- the first one lies at the bottom
    have low : ∀ (ds : List Opd) (vs : List V) (A : List RS), ∃ B, pshs ds vs A = B ++ A := by
      intro ds
      induction ds with
      | nil => intro vs A; exact ⟨[], by cases vs <;> rfl⟩
      | cons d ds ih =>
        intro vs A
        cases vs with
        | nil => exact ⟨[], rfl⟩
        | cons v vs =>
          obtain ⟨B, e⟩ := ih vs (psh d v A)
          show ∃ B, pshs ds vs (psh d v A) = B ++ A
          cases d with
          | val p => exact ⟨B ++ [(some v, .sh p)], by rw [e]; simp [psh]⟩
          | tmp o => exact ⟨B ++ [(some v, .ow o)], by rw [e]; simp [psh]⟩
          | plc i => exact ⟨B, e⟩
    obtain ⟨B, e⟩ := low ds vs ((some w, .ow o) :: T)
    refine ⟨B ++ T, ?_, List.sublist_append_right _ _⟩
    show (pshs ds vs ((some w, .ow o) :: T)).Perm _
    rw [e]
    exact List.perm_middle
  | d :: ds, w :: vs, T, m + 1, o, v, h, h' => by
    obtain ⟨R', p1, p2⟩ := pshs_split (ds := ds) (vs := vs) (T := psh d w T) (m := m) (by simpa using h) (by simpa using h')
    exact ⟨R', p1, (psh_sub d w T).trans p2⟩
theorem bind_pst {α β : Type} {L : Lx} {σ : L2.St} {T : List RS} {r : Rs α} {k : α → Env → Rs β} {K : β → Env → Prop} (h : Pst L σ T (r.bind k) K) : Pst L σ T r fun a Γ' => Pst L σ T (k a Γ') K := by
  cases r with
  | ok a Γ => exact fun _ => h
  | ex e Γ => exact h
  | no => exact h

/-- f(e, ..) -/
theorem e_call (FG : FnG L.X.prog L.X.w L.X.K L.X.mg L.X.base k f fd ps (spF L.X.K L.X.mg mo.toList ps.length F)) (hr : RoomG k L.X.A) (hx : Passes (L2.CX L.X.prog L.X.w) L.X L.E) (hg : Gl L.X x) (hm : L.X.mg x = some (.ref f)) (hk : PySem.W.keepIn L.X.K (.ref f) = true)
    (hb : Binds L.X.K fd ps []) (hm0 : ∀ m, mo = some m → m < ps.length) (hn : (e :: es).length = ps.length) (hf : fs.length = (e :: es).length) (ha : PA L.X (e :: es) (tA L (aS fs))) (hdb : (x == ("__debug__" : Str)) = false)
    (he : starEach (e :: es) L.X.env = (false, eval e L.X.env) :: starEach es L.X.env) (hpl : (backTo pos (starEach es L.X.env)).any (·.1) = false) :
    PE L.X (.Call (.Name x p) (e :: es) [] pos) (tE L (fC mo F (aS fs))) := by
  refine ⟨fun pins s σ H Q I h => ?_⟩
  obtain ⟨Γ, T, hl, st, h⟩ := h
  refine wpAny_Call_Name_kw (ld_glob I hg hm ?_ hdb)
  have ha' := tA_bind (T1 := T) (R := fun vs H1 => ∃ ds Γ1, Γ1.length = σ.length ∧ ArgP L σ Γ1 T ds vs H1 ∧ ds.length = fs.length ∧ Pst L σ T (callS mo F ds Γ1) fun d Γ' => ∀ v H', OpP L σ Γ' T d v H' → Q v H') hl (List.Sublist.refl T) st (show Pst L σ T ((aS fs Γ).bind fun ds Γ1 => if ds.length = fs.length then callS mo F ds Γ1 else .no) _ from by
      have len : ∀ (fs : List ESem) (Γ : Env) ds Γ1, aS fs Γ = .ok ds Γ1 → ds.length = fs.length := by
        intro fs
        induction fs with
        | nil => intro Γ ds Γ1 e; cases e; rfl
        | cons g fs ih =>
          intro Γ ds Γ1 e
          unfold aS at e
          cases e1 : g Γ with
          | ok d Γ2 =>
            rw [e1] at e
            have e : (aS fs Γ2).bind (fun ds Γ2 => .ok (d :: ds) Γ2) = .ok ds Γ1 := e
            cases e2 : aS fs Γ2 with
            | ok ds2 Γ3 => rw [e2] at e; cases e; rw [List.length_cons, List.length_cons, ih _ _ _ e2]
            | ex x Γ3 => rw [e2] at e; cases e
            | no => rw [e2] at e; cases e
          | ex x Γ2 => rw [e1] at e; cases e
          | no => rw [e1] at e; cases e
      have h : Pst L σ T ((aS fs Γ).bind (callS mo F)) _ := h
      cases e : aS fs Γ with
      | ok ds Γ1 => rw [e] at h; show Pst L σ T (if ds.length = fs.length then callS mo F ds Γ1 else .no) _; rw [if_pos (len _ _ _ _ e)]; exact h
      | ex x Γ1 => rw [e] at h; exact h
      | no => rw [e] at h; exact h) fun ds Γ1 vs H1 hl1 o1 h1 => by
    by_cases hd : ds.length = fs.length
    · rw [if_pos hd] at h1; exact ⟨ds, Γ1, hl1, o1, hd, h1⟩
    · rw [if_neg hd] at h1; exact h1.elim
  refine PySem.W.callWith_K (h₀ := L.X.base) I.ok.mod.kin hk (thn (ha.run pos pins s σ H _ I ha') fun us s1 ⟨vs, H1, I1, r, ds, Γ1, hl1, o1, hd, q⟩ => ⟨I1.kIn, ?_⟩) he hpl
  have lv : vs.length = ps.length := by rw [o1.len, hd, hf, hn]
  have hbt := hb s1 us I1.kIn (by rw [List.append_nil, ← r.length]; exact lv)
  rw [List.append_nil] at hbt
  exact call_core (args := ⟨us, []⟩) FG hr hx I1 hl1 o1.st (pshs_sub _ _ _) o1.len lv o1.has (fun m o v _ h1 h2 => pshs_split h1 h2) hm0 r hbt q
end
end Mv
end S8_

section S9_
set_option Elab.async false
set_option linter.all false
set_option maxRecDepth 100000
namespace Mv
open PySem PySem.Spec PyProof.Rows L2

/-! ### built-in functions, by what their arguments show -/
def vws (Γ : Env) : List Opd → Option (List PV)
  | [] => some []
  | d :: ds =>
    match vw Γ d, vws Γ ds with
    | some p, some l => some (p :: l)
    | _, _ => none
def liftN (op : List PV → Option Rv) (ds : List Opd) (Γ : Env) : Rs Opd :=
  match (vws Γ ds).bind op with
  | some r => .ok r.opd Γ
  | none => .no
def eB (op : List PV → Option Rv) (a : ASem) : ESem := fun Γ => (a Γ).bind (liftN op)
def RpVs (K : PySem.W.Frag) (mg : Str → Option Value) (H : Hp) : List PV → List V → Prop
  | [], xs => xs = []
  | p :: ps, xs => ∃ x r, xs = x :: r ∧ RpV K mg H p x ∧ RpVs K mg H ps r
def OpNS (L : Lx) (op : List PV → Option Rv) (r : List V → Hp → VK → Prop) : Prop := ∀ (rs : List RS) (ps : List PV) (z : Rv) (xs : List V) (H : Hp) (Q : VK), St L rs H → RpVs L.X.K L.X.mg H ps xs → op ps = some z →
  (∀ v H', St L (psh z.opd v rs) H' → Q v H') → r xs H Q
section
variable {L : Lx} {σ : L2.St} {Γ : Env} {T R : List RS}
theorem views_of {H : Hp} (st : St L (σ.zip Γ ++ R) H) : ∀ {ds : List Opd} {vs : List V} {ps : List PV}, vs.length = ds.length → (∀ (i : Nat) d v, ds[i]? = some d → vs[i]? = some v → Has σ R d v) → vws Γ ds = some ps → RpVs L.X.K L.X.mg H ps vs
  | [], vs, ps, hl, _, e => by
    cases e
    exact List.length_eq_zero_iff.mp hl
  | d :: ds, [], ps, hl, _, e => by cases hl
  | d :: ds, v :: vs, ps, hl, has, e => by
    unfold vws at e
    cases e1 : vw Γ d with
    | none => rw [e1] at e; cases e
    | some p =>
      cases e2 : vws Γ ds with
      | none => rw [e1, e2] at e; cases e
      | some l =>
        rw [e1, e2] at e
        cases e
        exact ⟨v, vs, rfl, view_of st (has 0 d v rfl rfl) e1, views_of st (by simpa using hl) (fun i d' v' h1 h2 => has (i + 1) d' v' (by simpa using h1) (by simpa using h2)) e2⟩
theorem liftN_fin {op : List PV → Option Rv} {r : List V → Hp → VK → Prop} (ho : OpNS L op r) {ds : List Opd} {vs : List V} {H : Hp} {Q : VK} (hl : Γ.length = σ.length) (o : ArgP L σ Γ T ds vs H)
    (h : Pst L σ T (liftN op ds Γ) fun d Γ' => ∀ v H', OpP L σ Γ' T d v H' → Q v H') : r vs H Q := by
  unfold liftN at h
  cases e : vws Γ ds with
  | none => rw [e] at h; exact h.elim
  | some ps =>
    rw [e] at h
    cases e2 : op ps with
    | none => simp only [Option.bind_some, e2] at h; exact h.elim
    | some z =>
      simp only [Option.bind_some, e2] at h
      exact ho _ ps z vs H Q o.st (views_of o.st o.len o.has e) e2 fun v H' st' => h hl v H' (OpP.fin z.np (pshs_sub ds vs T) st')
theorem tCB_go {op : List PV → Option Rv} {r : List V → Hp → VK → Prop} (ho : OpNS L op r) {a : ASem} {H : Hp} {Q : VK} (h : tE L (eB op a) σ H Q) : tCB r (tA L a) σ H Q := by
  obtain ⟨Γ, T, hl, st, h⟩ := h
  exact tA_bind hl (List.Sublist.refl T) st h fun ds Γ1 vs H1 hl1 o1 h1 => liftN_fin ho hl1 o1 h1
variable {x : Str} {p pos : Pos} {e : Expr} {es : List Expr} {id TT : String} {a : ASem} {op : List PV → Option Rv} {r : List V → Hp → VK → Prop}
theorem e_callB (hc : CallR L.X (.builtin id) r) (ho : OpNS L op r) (hg : Gl L.X x) (hm : L.X.mg x = none) (hv : bootBuiltins x = some (.builtin id)) (ha : PA L.X (e :: es) (tA L a)) (hn : x ≠ "__name__") (hdb : (x == ("__debug__" : Str)) = false)
    (he : starEach (e :: es) L.X.env = (false, eval e L.X.env) :: starEach es L.X.env) (hpl : (backTo pos (starEach es L.X.env)).any (·.1) = false) : PE L.X (.Call (.Name x p) (e :: es) [] pos) (tE L (eB op a)) :=
  peI (pe_callB hc hg hm hv ha hn hdb he hpl) fun _ _ _ h => tCB_go ho h
theorem e_callTy (hc : CallR L.X (.type TT) r) (ho : OpNS L op r) (hg : Gl L.X x) (hm : L.X.mg x = none) (hv : bootBuiltins x = some (.type TT)) (ha : PA L.X (e :: es) (tA L a)) (hn : x ≠ "__name__") (hdb : (x == ("__debug__" : Str)) = false)
    (he : starEach (e :: es) L.X.env = (false, eval e L.X.env) :: starEach es L.X.env) (hpl : (backTo pos (starEach es L.X.env)).any (·.1) = false) : PE L.X (.Call (.Name x p) (e :: es) [] pos) (tE L (eB op a)) :=
  peI (pe_callTy hc hg hm hv ha hn hdb he hpl) fun _ _ _ h => tCB_go ho h
end
theorem CallR.or {X : Cx} {f : Value} {r r' : List V → Hp → VK → Prop} (h : CallR X f r) (h' : CallR X f r') : CallR X f (fun xs H Q => r xs H Q ∨ r' xs H Q) := fun pins s σ H xs us Q I rv q => by
  rcases q with q | q
  · exact h pins s σ H xs us Q I rv q
  · exact h' pins s σ H xs us Q I rv q
/-- one argument -/
def op1 (f : PV → Option Rv) : List PV → Option Rv
  | [p] => f p
  | _ => none
def op2 (f : PV → PV → Option Rv) : List PV → Option Rv
  | [p, q] => f p q
  | _ => none
section
variable {L : Lx}
theorem op1_s {f : PV → Option Rv} {r : List V → Hp → VK → Prop} (h : ∀ (rs : List RS) (p : PV) (z : Rv) (x : V) (H : Hp) (Q : VK), St L rs H → RpV L.X.K L.X.mg H p x → f p = some z → (∀ v H', St L (psh z.opd v rs) H' → Q v H') → r [x] H Q) : OpNS L (op1 f) r := fun rs ps z xs H Q st hv e hQ => by
  cases ps with
  | nil => cases e
  | cons p ps =>
    cases ps with
    | cons q ps => cases e
    | nil =>
      obtain ⟨x, r', e1, h1, h2⟩ := hv
      have h2 : r' = [] := h2
      subst h2 e1
      exact h rs p z x H Q st h1 e hQ
theorem op2_s {f : PV → PV → Option Rv} {r : List V → Hp → VK → Prop} (h : ∀ (rs : List RS) (p q : PV) (z : Rv) (x y : V) (H : Hp) (Q : VK), St L rs H → RpV L.X.K L.X.mg H p x → RpV L.X.K L.X.mg H q y → f p q = some z → (∀ v H', St L (psh z.opd v rs) H' → Q v H') → r [x, y] H Q) : OpNS L (op2 f) r := fun rs ps z xs H Q st hv e hQ => by
  cases ps with
  | nil => cases e
  | cons p ps =>
    cases ps with
    | nil => cases e
    | cons q ps =>
      cases ps with
      | cons _ _ => cases e
      | nil =>
        obtain ⟨x, r', e1, h1, y, r2, e2, h2, h3⟩ := hv
        have h3 : r2 = [] := h3
        subst h3 e2 e1
        exact h rs p q z x y H Q st h1 h2 e hQ
end

/-! ### lists of intsL as trees -/
def intsL : List PV → Option (List Int)
  | [] => some []
  | .int i :: r => (intsL r).map (i :: ·)
  | _ => none
def blsL : List PV → Option (List Bool)
  | [] => some []
  | .bl i :: r => (blsL r).map (i :: ·)
  | _ => none
theorem ints_some : ∀ {ps : List PV} {ns : List Int}, intsL ps = some ns → ps = ns.map PV.int
  | [], ns, h => by cases h; rfl
  | p :: r, ns, h => by
    cases p <;> try cases h
    rename_i i
    have h : (intsL r).map (i :: ·) = some ns := h
    cases e : intsL r with
    | none => rw [e] at h; cases h
    | some l => rw [e] at h; cases h; rw [ints_some e]; rfl
theorem bls_some : ∀ {ps : List PV} {ns : List Bool}, blsL ps = some ns → ps = ns.map PV.bl
  | [], ns, h => by cases h; rfl
  | p :: r, ns, h => by
    cases p <;> try cases h
    rename_i i
    have h : (blsL r).map (i :: ·) = some ns := h
    cases e : blsL r with
    | none => rw [e] at h; cases h
    | some l => rw [e] at h; cases h; rw [bls_some e]; rfl
@[simp] theorem ints_map : ∀ ns : List Int, intsL (ns.map PV.int) = some ns
  | [] => rfl
  | n :: ns => by show (intsL (ns.map PV.int)).map (n :: ·) = _; rw [ints_map ns]; rfl
@[simp] theorem bls_map : ∀ ns : List Bool, blsL (ns.map PV.bl) = some ns
  | [] => rfl
  | n :: ns => by show (blsL (ns.map PV.bl)).map (n :: ·) = _; rw [bls_map ns]; rfl
section
variable {K : PySem.W.Frag} {mg : Str → Option Value} {H : Hp}
theorem RpA.intsV : ∀ {ns : List Int} {xs : List V}, RpA K mg H (ns.map PV.int) xs → xs = ns.map V.int
  | [], xs, h => h
  | n :: ns, xs, h => by
    obtain ⟨x, r, e, h1, h2⟩ := h
    rw [e, show x = V.int n from h1, RpA.intsV h2]; rfl
theorem RpA.of_ints : ∀ (ns : List Int), RpA K mg H (ns.map PV.int) (ns.map V.int)
  | [] => rfl
  | n :: ns => ⟨_, _, rfl, rfl, RpA.of_ints ns⟩
theorem RpA.blsV : ∀ {ns : List Bool} {xs : List V}, RpA K mg H (ns.map PV.bl) xs → xs = ns.map V.bl
  | [], xs, h => h
  | n :: ns, xs, h => by
    obtain ⟨x, r, e, h1, h2⟩ := h
    rw [e, show x = V.bl n from h1, RpA.blsV h2]; rfl
theorem RpA.app : ∀ {ps qs : List PV} {xs ys : List V}, RpA K mg H ps xs → RpA K mg H qs ys → RpA K mg H (ps ++ qs) (xs ++ ys)
  | [], qs, xs, ys, h, h' => by rw [show xs = [] from h]; exact h'
  | p :: ps, qs, xs, ys, h, h' => by
    obtain ⟨x, r, e, h1, h2⟩ := h
    rw [e]
    exact ⟨x, r ++ ys, rfl, h1, RpA.app h2 h'⟩
theorem RpA.one {p : PV} {x : V} (h : Rp K mg H p x) : RpA K mg H [p] [x] := ⟨x, [], rfl, h, rfl⟩
theorem RpA.getL : ∀ {ps : List PV} {xs : List V}, RpA K mg H ps xs ↔ xs.length = ps.length ∧ ∀ (i : Nat) p x, ps[i]? = some p → xs[i]? = some x → Rp K mg H p x
  | [], xs => ⟨fun h => ⟨by rw [show xs = [] from h]; rfl, fun i p x e => by simp at e⟩, fun h => List.length_eq_zero_iff.mp h.1⟩
  | p :: ps, xs => by
    constructor
    · rintro ⟨x, r, e, h1, h2⟩
      subst e
      obtain ⟨l, g⟩ := RpA.getL.mp h2
      refine ⟨by simp [l], fun i q y e1 e2 => ?_⟩
      cases i with
      | zero => simp at e1 e2; subst e1 e2; exact h1
      | succ i => exact g i q y (by simpa using e1) (by simpa using e2)
    · rintro ⟨l, g⟩
      cases xs with
      | nil => cases l
      | cons x r => exact ⟨x, r, rfl, g 0 p x rfl rfl, RpA.getL.mpr ⟨by simpa using l, fun i q y e1 e2 => g (i + 1) q y (by simpa using e1) (by simpa using e2)⟩⟩
theorem RpA.take {ps : List PV} {xs : List V} (n : Nat) (h : RpA K mg H ps xs) : RpA K mg H (ps.take n) (xs.take n) := by
  obtain ⟨l, g⟩ := RpA.getL.mp h
  refine RpA.getL.mpr ⟨by simp [l], fun i p x e1 e2 => ?_⟩
  rw [List.getElem?_take] at e1 e2
  split at e1
  · rename_i hi; rw [if_pos hi] at e2; exact g i p x e1 e2
  · cases e1
theorem RpA.drop {ps : List PV} {xs : List V} (n : Nat) (h : RpA K mg H ps xs) : RpA K mg H (ps.drop n) (xs.drop n) := by
  obtain ⟨l, g⟩ := RpA.getL.mp h
  refine RpA.getL.mpr ⟨by simp [l], fun i p x e1 e2 => ?_⟩
  rw [List.getElem?_drop] at e1 e2
  exact g _ p x e1 e2
theorem RpA.set {ps : List PV} {xs : List V} {p : PV} {x : V} (n : Nat) (h : RpA K mg H ps xs) (q : Rp K mg H p x) : RpA K mg H (ps.set n p) (xs.set n x) := by
  obtain ⟨l, g⟩ := RpA.getL.mp h
  refine RpA.getL.mpr ⟨by simp [l], fun i p' x' e1 e2 => ?_⟩
  rw [List.getElem?_set] at e1 e2
  by_cases hn : n = i
  · rw [if_pos hn] at e1 e2
    split at e1
    · split at e2
      · cases e1; cases e2; exact q
      · cases e2
    · cases e1
  · rw [if_neg hn] at e1 e2; exact g i p' x' e1 e2
theorem RpA.eraseIdx {ps : List PV} {xs : List V} (n : Nat) (h : RpA K mg H ps xs) : RpA K mg H (ps.eraseIdx n) (xs.eraseIdx n) := by
  rw [List.eraseIdx_eq_take_drop_succ, List.eraseIdx_eq_take_drop_succ]
  exact (h.take n).app (h.drop (n + 1))
theorem RpA.reverse {ps : List PV} {xs : List V} (h : RpA K mg H ps xs) : RpA K mg H ps.reverse xs.reverse := by
  obtain ⟨l, g⟩ := RpA.getL.mp h
  refine RpA.getL.mpr ⟨by simp [l], fun i p x e1 e2 => ?_⟩
  obtain ⟨hi, e1'⟩ := List.getElem?_eq_some_iff.mp e1
  obtain ⟨hj, e2'⟩ := List.getElem?_eq_some_iff.mp e2
  rw [List.getElem_reverse] at e1' e2'
  rw [List.length_reverse] at hi hj
  refine g (ps.length - 1 - i) p x (List.getElem?_eq_some_iff.mpr ⟨by omega, e1'⟩) (List.getElem?_eq_some_iff.mpr ⟨by omega, ?_⟩)
  rw [← e2']
  congr 1
  omega
end

/-! ### the rules -/
def bLen : PV → Option Rv
  | .lst ps => some (.val (.int ps.length))
  | .tup ps => some (.val (.int ps.length))
  | _ => none
def bLenS : PV → Option Rv
  | .str s => if s.length ≤ sizeLine then some (.val (.int s.length)) else none
  | _ => none
def bAbs : PV → Option Rv
  | .int i => some (.val (.int (if i < 0 then -i else i)))
  | _ => none
def bInt : PV → Option Rv
  | .int i => some (.val (.int i))
  | _ => none
def bMax2 : PV → PV → Option Rv
  | .int i, .int j => some (.val (.int (if j > i then j else i)))
  | _, _ => none
def bMin2 : PV → PV → Option Rv
  | .int i, .int j => some (.val (.int (if j < i then j else i)))
  | _, _ => none
def divOk (j : Int) : Bool := decide (0 < j) && decide (j < 1073741824)
theorem divOk_c {i j : Int} (h : divOk j = true) : CDiv i j := by
  unfold divOk at h
  simp only [Bool.and_eq_true, decide_eq_true_eq] at h
  exact h
def bDivmod : PV → PV → Option Rv
  | .int i, .int j => if divOk j then some (.val (.tup [.int (i / j), .int (i % j)])) else none
  | _, _ => none
/-- list(x): the items in a new list -/
def bList : PV → Option Rv
  | .lst ps => some (.tmp (.lst ps))
  | .tup ps => some (.tmp (.lst ps))
  | _ => none
def bTuple : PV → Option Rv
  | .lst ps => some (.val (.tup ps))
  | .tup ps => some (.val (.tup ps))
  | _ => none
def isum : List Int → Int := List.sum
def bSumL : PV → Option Rv
  | .lst ps => (intsL ps).map fun ns => .val (.int ns.sum)
  | _ => none
/-- the greatest, the least of some intsL -/
def imax : List Int → Int
  | [] => 0
  | n :: ns => ns.foldl max n
def imin : List Int → Int
  | [] => 0
  | n :: ns => ns.foldl min n
theorem foldl_max (ns : List Int) : ∀ n : Int, n ≤ ns.foldl max n ∧ (∀ y ∈ ns, y ≤ ns.foldl max n) ∧ (ns.foldl max n = n ∨ ns.foldl max n ∈ ns) := by
  induction ns with
  | nil => intro n; exact ⟨Int.le_refl _, (fun y hy => nomatch hy), .inl rfl⟩
  | cons m ns ih =>
    intro n
    obtain ⟨h1, h2, h3⟩ := ih (max n m)
    rw [List.foldl_cons]
    refine ⟨by omega, fun y hy => ?_, ?_⟩
    · rcases List.mem_cons.mp hy with rfl | hy
      · omega
      · exact h2 y hy
    · rcases h3 with h3 | h3
      · rw [h3]
        by_cases h : n ≤ m
        · exact .inr (by rw [show max n m = m by omega]; exact List.mem_cons_self)
        · exact .inl (by omega)
      · exact .inr (List.mem_cons_of_mem _ h3)
theorem foldl_min (ns : List Int) : ∀ n : Int, ns.foldl min n ≤ n ∧ (∀ y ∈ ns, ns.foldl min n ≤ y) ∧ (ns.foldl min n = n ∨ ns.foldl min n ∈ ns) := by
  induction ns with
  | nil => intro n; exact ⟨Int.le_refl _, (fun y hy => nomatch hy), .inl rfl⟩
  | cons m ns ih =>
    intro n
    obtain ⟨h1, h2, h3⟩ := ih (min n m)
    rw [List.foldl_cons]
    refine ⟨by omega, fun y hy => ?_, ?_⟩
    · rcases List.mem_cons.mp hy with rfl | hy
      · omega
      · exact h2 y hy
    · rcases h3 with h3 | h3
      · rw [h3]
        by_cases h : m ≤ n
        · exact .inr (by rw [show min n m = m by omega]; exact List.mem_cons_self)
        · exact .inl (by omega)
      · exact .inr (List.mem_cons_of_mem _ h3)
theorem imax_is {ns : List Int} {m : Int} (h : m ∈ ns) (hm : ∀ y ∈ ns, y ≤ m) : m = imax ns := by
  cases ns with
  | nil => cases h
  | cons n ns =>
    obtain ⟨h1, h2, h3⟩ := foldl_max ns n
    show m = ns.foldl max n
    have a : m ≤ ns.foldl max n := by
      rcases List.mem_cons.mp h with rfl | h
      · exact h1
      · exact h2 m h
    have b : ns.foldl max n ≤ m := by
      rcases h3 with h3 | h3
      · rw [h3]; exact hm n List.mem_cons_self
      · exact hm _ (List.mem_cons_of_mem _ h3)
    omega
theorem imin_is {ns : List Int} {m : Int} (h : m ∈ ns) (hm : ∀ y ∈ ns, m ≤ y) : m = imin ns := by
  cases ns with
  | nil => cases h
  | cons n ns =>
    obtain ⟨h1, h2, h3⟩ := foldl_min ns n
    show m = ns.foldl min n
    have a : ns.foldl min n ≤ m := by
      rcases List.mem_cons.mp h with rfl | h
      · exact h1
      · exact h2 m h
    have b : m ≤ ns.foldl min n := by
      rcases h3 with h3 | h3
      · rw [h3]; exact hm n List.mem_cons_self
      · exact hm _ (List.mem_cons_of_mem _ h3)
    omega
def bMaxL : PV → Option Rv
  | .lst ps => (intsL ps).bind fun ns => if ns.isEmpty then none else some (.val (.int (imax ns)))
  | _ => none
def bMinL : PV → Option Rv
  | .lst ps => (intsL ps).bind fun ns => if ns.isEmpty then none else some (.val (.int (imin ns)))
  | _ => none
/-- ascending -/
def ins1 (n : Int) : List Int → List Int
  | [] => [n]
  | m :: r => if n ≤ m then n :: m :: r else m :: ins1 n r
def isort : List Int → List Int
  | [] => []
  | n :: r => ins1 n (isort r)
theorem ins1_perm (n : Int) : ∀ l : List Int, (ins1 n l).Perm (n :: l)
  | [] => List.Perm.refl _
  | m :: r => by
    unfold ins1
    split
    · exact List.Perm.refl _
    · exact ((ins1_perm n r).cons m).trans (List.Perm.swap n m r)
theorem isort_perm : ∀ l : List Int, (isort l).Perm l
  | [] => List.Perm.refl _
  | n :: r => (ins1_perm n (isort r)).trans ((isort_perm r).cons n)
theorem ins1_sorted (n : Int) : ∀ l : List Int, l.Pairwise (· ≤ ·) → (ins1 n l).Pairwise (· ≤ ·)
  | [], _ => List.pairwise_singleton _ _
  | m :: r, h => by
    unfold ins1
    obtain ⟨h1, h2⟩ := List.pairwise_cons.mp h
    split
    · rename_i hnm
      refine List.pairwise_cons.mpr ⟨fun y hy => ?_, h⟩
      rcases List.mem_cons.mp hy with rfl | hy
      · exact hnm
      · exact Int.le_trans hnm (h1 y hy)
    · refine List.pairwise_cons.mpr ⟨fun y hy => ?_, ins1_sorted n r h2⟩
      rcases List.mem_cons.mp ((ins1_perm n r).mem_iff.mp hy) with rfl | hy
      · omega
      · exact h1 y hy
theorem isort_sorted : ∀ l : List Int, (isort l).Pairwise (· ≤ ·)
  | [] => List.Pairwise.nil
  | n :: r => ins1_sorted n _ (isort_sorted r)
theorem sorted_one : ∀ {l l' : List Int}, l.Perm l' → l.Pairwise (· ≤ ·) → l'.Pairwise (· ≤ ·) → l = l'
  | [], l', p, _, _ => (List.nil_perm.mp p).symm
  | n :: r, l', p, h, h' => by
    cases l' with
    | nil => exact absurd p.length_eq (by simp)
    | cons m r' =>
      obtain ⟨h1, h2⟩ := List.pairwise_cons.mp h
      obtain ⟨h3, h4⟩ := List.pairwise_cons.mp h'
      have e : n = m := by
        have a : n ∈ m :: r' := p.mem_iff.mp List.mem_cons_self
        have b : m ∈ n :: r := p.mem_iff.mpr List.mem_cons_self
        rcases List.mem_cons.mp a with a | a
        · exact a
        · rcases List.mem_cons.mp b with b | b
          · exact b.symm
          · have := h1 m b; have := h3 n a; omega
      subst e
      rw [sorted_one ((List.perm_cons n).mp p) h2 h4]
theorem isort_is {l l' : List Int} (p : l'.Perm l) (h : l'.Pairwise (· ≤ ·)) : l' = isort l := sorted_one (p.trans (isort_perm l).symm) h (isort_sorted l)
def bSortedL : PV → Option Rv
  | .lst ps => (intsL ps).map fun ns => .tmp (.lst ((isort ns).map PV.int))
  | _ => none
def bAll : PV → Option Rv
  | .lst ps => (blsL ps).map fun bs => .val (.bl (bs.all id))
  | _ => none
def bAny : PV → Option Rv
  | .lst ps => (blsL ps).map fun bs => .val (.bl (bs.any id))
  | _ => none

section
variable {L : Lx}
theorem St.new_list {rs : List RS} {H : Hp} (st : St L rs H) {ps : List PV} {xs : List V} (h : RpA L.X.K L.X.mg H ps xs) {p : Addr} (hp : H p = none) : St L ((some (.ref p), .ow (.lst ps)) :: rs) (upd H p (.lst xs)) :=
  st.push_own hp ⟨xs, upd_same, RpA.le (Le.fresh hp) _ _ h⟩
theorem St.new_tup {rs : List RS} {H : Hp} (st : St L rs H) {ps : List PV} {xs : List V} (h : RpA L.X.K L.X.mg H ps xs) {p : Addr} (hp : H p = none) : St L ((some (.ref p), .sh (.tup ps)) :: rs) (upd H p (.tup xs)) :=
  (st.fresh hp).push_val ⟨p, xs, rfl, .of upd_same, RpA.le (Le.fresh hp) _ _ h⟩
/-- a list or a tuple, as seen -/
theorem rv_seq {K : PySem.W.Frag} {mg : Str → Option Value} {H : Hp} {p : PV} {x : V} {ps : List PV} (h : RpV K mg H p x) (e : p = .lst ps ∨ p = .tup ps) : ∃ a xs, x = .ref a ∧ (SqL K H a xs ∨ SqT K H a xs) ∧ RpA K mg H ps xs := by
  rcases e with rfl | rfl
  · obtain ⟨a, xs, h1, h2, h3⟩ := rv_lst h; exact ⟨a, xs, h1, .inl h2, h3⟩
  · obtain ⟨a, xs, h1, h2, h3⟩ := rv_tup h; exact ⟨a, xs, h1, .inr h2, h3⟩
theorem bLen_s : OpNS L (op1 bLen) (fun xs H Q => ∃ p ys, xs = [.ref p] ∧ (SqL L.X.K H p ys ∨ SqT L.X.K H p ys) ∧ Q (.int ys.length) H) := op1_s fun rs p z x H Q st hx e hQ => by
  obtain ⟨ps, hp, rfl⟩ : ∃ ps, (p = .lst ps ∨ p = .tup ps) ∧ z = .val (.int ps.length) := by
    cases p <;> first | exact ⟨_, .inl rfl, (Option.some.inj e).symm⟩ | exact ⟨_, .inr rfl, (Option.some.inj e).symm⟩ | cases e
  obtain ⟨a, xs, h1, h2, h3⟩ := rv_seq hx hp
  exact ⟨a, xs, by rw [h1], h2, hQ _ H (st.push_val (by rw [h3.len]; rfl))⟩
theorem bLenS_s : OpNS L (op1 bLenS) (fun xs H Q => ∃ z, xs = [.str z] ∧ z.length ≤ sizeLine ∧ Q (.int z.length) H) := op1_s fun rs p z x H Q st hx e hQ => by
  cases p <;> try cases e
  rename_i s
  have e : (if s.length ≤ sizeLine then some (Rv.val (.int s.length)) else none) = some z := e
  split at e
  · cases e
    exact ⟨s, by rw [rv_str hx], by assumption, hQ _ H (st.push_val rfl)⟩
  · cases e
theorem bAbs_s : OpNS L (op1 bAbs) (fun xs H Q => ∃ i, xs = [.int i] ∧ Q (.int (if i < 0 then -i else i)) H) := op1_s fun rs p z x H Q st hx e hQ => by
  cases p <;> try cases e
  exact ⟨_, by rw [rv_int hx], hQ _ H (st.push_val rfl)⟩
theorem bInt_s : OpNS L (op1 bInt) (fun xs H Q => (∃ i, xs = [.int i] ∧ Q (.int i) H) ∨ ∃ k, xs = [.bl k] ∧ Q (.int (if k then 1 else 0)) H) := op1_s fun rs p z x H Q st hx e hQ => by
  cases p <;> try cases e
  exact .inl ⟨_, by rw [rv_int hx], hQ _ H (st.push_val rfl)⟩
theorem bMax2_s : OpNS L (op2 bMax2) (fun xs H Q => ∃ i j, xs = [.int i, .int j] ∧ Q (.int (if j > i then j else i)) H) := op2_s fun rs p q z x y H Q st hx hy e hQ => by
  cases p <;> try cases e
  cases q <;> try cases e
  exact ⟨_, _, by rw [rv_int hx, rv_int hy], hQ _ H (st.push_val rfl)⟩
theorem bMin2_s : OpNS L (op2 bMin2) (fun xs H Q => ∃ i j, xs = [.int i, .int j] ∧ Q (.int (if j < i then j else i)) H) := op2_s fun rs p q z x y H Q st hx hy e hQ => by
  cases p <;> try cases e
  cases q <;> try cases e
  exact ⟨_, _, by rw [rv_int hx, rv_int hy], hQ _ H (st.push_val rfl)⟩
theorem bDivmod_s : OpNS L (op2 bDivmod) (fun xs H Q => ∃ i j, xs = [.int i, .int j] ∧ CDiv i j ∧ ∀ p, H p = none → Q (.ref p) (upd H p (.tup [.int (i / j), .int (i % j)]))) := op2_s fun rs p q z x y H Q st hx hy e hQ => by
  cases p <;> try cases e
  cases q <;> try cases e
  rename_i i j
  have e : (if divOk j then some (Rv.val (.tup [.int (i / j), .int (i % j)])) else none) = some z := e
  split at e
  · rename_i hd
    cases e
    exact ⟨i, j, by rw [rv_int hx, rv_int hy], divOk_c hd, fun p hp => hQ _ _ (st.new_tup (ps := [.int (i / j), .int (i % j)]) (RpA.of_ints [i / j, i % j]) hp)⟩
  · cases e
theorem bList_s : OpNS L (op1 bList) (fun xs H Q => ∃ p ys, xs = [.ref p] ∧ (SqL L.X.K H p ys ∨ SqT L.X.K H p ys) ∧ ∀ l, H l = none → Q (.ref l) (upd H l (.lst ys))) := op1_s fun rs p z x H Q st hx e hQ => by
  obtain ⟨ps, hp, rfl⟩ : ∃ ps, (p = .lst ps ∨ p = .tup ps) ∧ z = .tmp (.lst ps) := by
    cases p <;> first | exact ⟨_, .inl rfl, (Option.some.inj e).symm⟩ | exact ⟨_, .inr rfl, (Option.some.inj e).symm⟩ | cases e
  obtain ⟨a, xs, h1, h2, h3⟩ := rv_seq hx hp
  exact ⟨a, xs, by rw [h1], h2, fun l hl => hQ _ _ (st.new_list h3 hl)⟩
theorem bTuple_s : OpNS L (op1 bTuple) (fun xs H Q => ∃ p ys, xs = [.ref p] ∧ ((SqL L.X.K H p ys ∧ ∀ l, H l = none → Q (.ref l) (upd H l (.tup ys))) ∨ (SqT L.X.K H p ys ∧ Q (.ref p) H))) := op1_s fun rs p z x H Q st hx e hQ => by
  obtain ⟨ps, hp, rfl⟩ : ∃ ps, (p = .lst ps ∨ p = .tup ps) ∧ z = .val (.tup ps) := by
    cases p <;> first | exact ⟨_, .inl rfl, (Option.some.inj e).symm⟩ | exact ⟨_, .inr rfl, (Option.some.inj e).symm⟩ | cases e
  rcases hp with rfl | rfl
  · obtain ⟨a, xs, h1, h2, h3⟩ := rv_lst hx
    exact ⟨a, xs, by rw [h1], .inl ⟨h2, fun l hl => hQ _ _ (st.new_tup h3 hl)⟩⟩
  · obtain ⟨a, xs, h1, h2, h3⟩ := rv_tup hx
    exact ⟨a, xs, by rw [h1], .inr ⟨h2, hQ _ _ (st.push_val ⟨a, xs, rfl, h2, h3⟩)⟩⟩
theorem bSumL_s : OpNS L (op1 bSumL) (rSum L.X.K) := op1_s fun rs p z x H Q st hx e hQ => by
  cases p <;> try cases e
  rename_i ps
  have e : (intsL ps).map (fun ns => Rv.val (.int ns.sum)) = some z := e
  cases e2 : intsL ps with
  | none => rw [e2] at e; cases e
  | some ns =>
    rw [e2] at e
    cases e
    obtain ⟨a, xs, h1, h2, h3⟩ := rv_lst hx
    rw [ints_some e2] at h3
    rw [h3.intsV] at h2
    exact ⟨a, ns, by rw [h1], h2, hQ _ H (st.push_val rfl)⟩
theorem bMaxL_s : OpNS L (op1 bMaxL) (rMax L.X.K) := op1_s fun rs p z x H Q st hx e hQ => by
  cases p <;> try cases e
  rename_i ps
  have e : (intsL ps).bind (fun ns => if ns.isEmpty then none else some (Rv.val (.int (imax ns)))) = some z := e
  cases e2 : intsL ps with
  | none => rw [e2] at e; cases e
  | some ns =>
    rw [e2] at e
    have e : (if ns.isEmpty then none else some (Rv.val (.int (imax ns)))) = some z := e
    split at e
    · cases e
    · rename_i hne
      cases e
      obtain ⟨a, xs, h1, h2, h3⟩ := rv_lst hx
      rw [ints_some e2] at h3
      rw [h3.intsV] at h2
      exact ⟨a, ns, by rw [h1], h2, by cases ns with | nil => exact absurd rfl hne | cons n r => exact Nat.succ_pos _, fun m hm hle => hQ _ H (st.push_val (by rw [imax_is hm hle]; rfl))⟩
theorem bMinL_s : OpNS L (op1 bMinL) (rMin L.X.K) := op1_s fun rs p z x H Q st hx e hQ => by
  cases p <;> try cases e
  rename_i ps
  have e : (intsL ps).bind (fun ns => if ns.isEmpty then none else some (Rv.val (.int (imin ns)))) = some z := e
  cases e2 : intsL ps with
  | none => rw [e2] at e; cases e
  | some ns =>
    rw [e2] at e
    have e : (if ns.isEmpty then none else some (Rv.val (.int (imin ns)))) = some z := e
    split at e
    · cases e
    · rename_i hne
      cases e
      obtain ⟨a, xs, h1, h2, h3⟩ := rv_lst hx
      rw [ints_some e2] at h3
      rw [h3.intsV] at h2
      exact ⟨a, ns, by rw [h1], h2, by cases ns with | nil => exact absurd rfl hne | cons n r => exact Nat.succ_pos _, fun m hm hle => hQ _ H (st.push_val (by rw [imin_is hm hle]; rfl))⟩
theorem bSortedL_s : OpNS L (op1 bSortedL) (rSortedI L.X.K) := op1_s fun rs p z x H Q st hx e hQ => by
  cases p <;> try cases e
  rename_i ps
  have e : (intsL ps).map (fun ns => Rv.tmp (.lst ((isort ns).map PV.int))) = some z := e
  cases e2 : intsL ps with
  | none => rw [e2] at e; cases e
  | some ns =>
    rw [e2] at e
    cases e
    obtain ⟨a, xs, h1, h2, h3⟩ := rv_lst hx
    rw [ints_some e2] at h3
    rw [h3.intsV] at h2
    refine ⟨a, ns, by rw [h1], h2, fun ns' p hp hs hn => hQ _ _ ?_⟩
    rw [isort_is hp hs]
    exact st.new_list (RpA.of_ints _) hn
theorem bAll_s : OpNS L (op1 bAll) (rAll L.X.K) := op1_s fun rs p z x H Q st hx e hQ => by
  cases p <;> try cases e
  rename_i ps
  have e : (blsL ps).map (fun bs => Rv.val (.bl (bs.all id))) = some z := e
  cases e2 : blsL ps with
  | none => rw [e2] at e; cases e
  | some ns =>
    rw [e2] at e
    cases e
    obtain ⟨a, xs, h1, h2, h3⟩ := rv_lst hx
    rw [bls_some e2] at h3
    rw [h3.blsV] at h2
    exact ⟨a, ns, by rw [h1], h2, hQ _ H (st.push_val rfl)⟩
theorem bAny_s : OpNS L (op1 bAny) (rAny L.X.K) := op1_s fun rs p z x H Q st hx e hQ => by
  cases p <;> try cases e
  rename_i ps
  have e : (blsL ps).map (fun bs => Rv.val (.bl (bs.any id))) = some z := e
  cases e2 : blsL ps with
  | none => rw [e2] at e; cases e
  | some ns =>
    rw [e2] at e
    cases e
    obtain ⟨a, xs, h1, h2, h3⟩ := rv_lst hx
    rw [bls_some e2] at h3
    rw [h3.blsV] at h2
    exact ⟨a, ns, by rw [h1], h2, hQ _ H (st.push_val rfl)⟩
end
end Mv
end S9_

section S10_
set_option Elab.async false
set_option linter.all false
set_option maxRecDepth 100000
namespace Mv
open PySem PySem.Spec PyProof.Rows L2

/-! ### displays -/
def valsO : List Opd → Option (List PV)
  | [] => some []
  | .val p :: r => (valsO r).map (p :: ·)
  | _ => none
def eLst (a : ASem) : ESem := fun Γ => (a Γ).bind fun ds Γ' => match valsO ds with
  | some ps => if ps.length ≤ sizeLine then .ok (.tmp (.lst ps)) Γ' else .no
  | none => .no
def eTup (a : ASem) : ESem := fun Γ => (a Γ).bind fun ds Γ' => match valsO ds with
  | some ps => if ps.length ≤ sizeLine then .ok (.val (.tup ps)) Γ' else .no
  | none => .no
section
variable {L : Lx} {σ : L2.St} {Γ : Env} {T R : List RS} {pos : Pos}
theorem vals_rp {H : Hp} (st : St L (σ.zip Γ ++ R) H) : ∀ {ds : List Opd} {vs : List V} {ps : List PV}, vs.length = ds.length → (∀ (i : Nat) d v, ds[i]? = some d → vs[i]? = some v → Has σ R d v) → valsO ds = some ps → RpA L.X.K L.X.mg H ps vs
  | [], vs, ps, hl, _, e => by
    cases e
    exact List.length_eq_zero_iff.mp hl
  | d :: ds, [], ps, hl, _, e => by cases hl
  | .val p :: ds, v :: vs, ps, hl, has, e => by
    have e : (valsO ds).map (p :: ·) = some ps := e
    cases e2 : valsO ds with
    | none => rw [e2] at e; cases e
    | some l =>
      rw [e2] at e
      cases e
      obtain ⟨x, ex, q⟩ := st.rel (some v, .sh p) (List.mem_append_right _ (has 0 _ v rfl rfl))
      cases ex
      exact ⟨v, vs, rfl, q, vals_rp st (by simpa using hl) (fun i d' v' h1 h2 => has (i + 1) d' v' (by simpa using h1) (by simpa using h2)) e2⟩
  | .tmp o :: ds, v :: vs, ps, hl, has, e => by cases e
  | .plc j :: ds, v :: vs, ps, hl, has, e => by cases e
theorem e_lst {es : List Expr} {a : ASem} (h : PA L.X es (tA L a)) : PE L.X (.List es pos) (tE L (eLst a)) := peI (pe_lst h) fun σ H Q q => by
  obtain ⟨Γ, T, hl, st, q⟩ := q
  refine tA_bind hl (List.Sublist.refl T) st q fun ds Γ1 vs H1 hl1 o1 h1 => ?_
  cases e : valsO ds with
  | none => simp only [e] at h1; exact h1.elim
  | some ps =>
    simp only [e] at h1
    have r := vals_rp o1.st o1.len o1.has e
    by_cases hz : ps.length ≤ sizeLine
    · rw [if_pos hz] at h1
      exact ⟨by rw [r.len]; exact hz, fun p hp => h1 hl1 _ _ (OpP.fin (fun i z => nomatch z) (pshs_sub ds vs T) (o1.st.new_list r hp))⟩
    · rw [if_neg hz] at h1; exact h1.elim
theorem e_tup {es : List Expr} {k} {a : ASem} (h : PA L.X es (tA L a)) : PE L.X (.Tuple es k pos) (tE L (eTup a)) := peI (pe_tup h) fun σ H Q q => by
  obtain ⟨Γ, T, hl, st, q⟩ := q
  refine tA_bind hl (List.Sublist.refl T) st q fun ds Γ1 vs H1 hl1 o1 h1 => ?_
  cases e : valsO ds with
  | none => simp only [e] at h1; exact h1.elim
  | some ps =>
    simp only [e] at h1
    have r := vals_rp o1.st o1.len o1.has e
    by_cases hz : ps.length ≤ sizeLine
    · rw [if_pos hz] at h1
      exact ⟨by rw [r.len]; exact hz, fun p hp => h1 hl1 _ _ (OpP.fin (fun i z => nomatch z) (pshs_sub ds vs T) (o1.st.new_tup r hp))⟩
    · rw [if_neg hz] at h1; exact h1.elim
end

/-! ### items -/
def ixS : PV → PV → Option Rv
  | .lst ps, .int i => (atI ps i).map .val
  | .tup ps, .int i => (atI ps i).map .val
  | .str s, .int i => if s.length ≤ sizeLine then (atI s.cps.toList i).map fun c => .val (.str ⟨#[c]⟩) else none
  | _, _ => none
theorem RpA.atI {K : PySem.W.Frag} {mg : Str → Option Value} {H : Hp} {ps : List PV} {xs : List V} {i : Int} {p : PV} (h : RpA K mg H ps xs) (e : L2.atI ps i = some p) : ∃ x, L2.atI xs i = some x ∧ Rp K mg H p x := by
  unfold L2.atI at e ⊢
  rw [h.len]
  cases q : ixN ps.length i with
  | none => rw [q] at e; cases e
  | some j =>
    rw [q] at e
    exact h.get e
section
variable {L : Lx} {pos p2 : Pos} {a b : Expr} {f g : ESem}
theorem ixS_s : Op2S L ixS (rIx L.X.K) := fun rs p q z x y H Q st hx hy e hQ => by
  cases q <;> try (cases p <;> cases e)
  rename_i i
  have hy := rv_int hy
  cases p <;> try cases e
  · rename_i s
    have e : (if s.length ≤ sizeLine then (atI s.cps.toList i).map fun c => Rv.val (.str ⟨#[c]⟩) else none) = some z := e
    split at e
    · rename_i hz
      cases e2 : atI s.cps.toList i with
      | none => rw [e2] at e; cases e
      | some c =>
        rw [e2] at e
        cases e
        exact .inr (.inr ⟨s, i, c, rv_str hx, hy, hz, e2, hQ _ H (st.push_val rfl)⟩)
    · cases e
  · rename_i ps
    have e : (atI ps i).map Rv.val = some z := e
    cases e2 : atI ps i with
    | none => rw [e2] at e; cases e
    | some w =>
      rw [e2] at e
      cases e
      obtain ⟨a, xs, h1, h2, h3⟩ := rv_tup hx
      obtain ⟨v, h4, h5⟩ := h3.atI e2
      exact .inr (.inl ⟨a, xs, i, v, h1, hy, h2, h4, hQ _ H (st.push_val h5)⟩)
  · rename_i ps
    have e : (atI ps i).map Rv.val = some z := e
    cases e2 : atI ps i with
    | none => rw [e2] at e; cases e
    | some w =>
      rw [e2] at e
      cases e
      obtain ⟨a, xs, h1, h2, h3⟩ := rv_lst hx
      obtain ⟨v, h4, h5⟩ := h3.atI e2
      exact .inl ⟨a, xs, i, v, h1, hy, h2, h4, hQ _ H (st.push_val h5)⟩
theorem e_ix (ha : PE L.X a (tE L f)) (hb : PE L.X b (tE L g)) (hs : PlainIx b) : PE L.X (.Subscript a b pos) (tE L (eBin ixS f g)) :=
  peI (pe_ix ix_seq ha hb hs) fun _ _ _ h => bin_go ixS_s h
end

/-! ### slices -/
/-- the places of a slice of n items -/
def slIx (n : Nat) (lo hi st : Option Int) : List Nat := (sliceRange (sliceBounds lo hi st n).1 (sliceBounds lo hi st n).2.1 (sliceBounds lo hi st n).2.2)
def slP {α : Type} (xs : List α) (lo hi st : Option Int) : List α := (slIx xs.length lo hi st).filterMap (xs[·]?)
/-- a slice's parts -/
abbrev OSem := Env → Rs (Option Int)
def oNo : OSem := fun Γ => .ok none Γ
def oSome (f : ESem) : OSem := fun Γ => (f Γ).bind fun d Γ' => match vw Γ' d with
  | some (.int i) => .ok (some i) Γ'
  | _ => .no
def tO (L : Lx) (f : OSem) : TO := fun σ H Q => ∃ Γ T, Γ.length = σ.length ∧ St L (σ.zip Γ ++ T) H ∧
  Pst L σ T (f Γ) fun o Γ' => ∀ H', St L (σ.zip Γ' ++ T) H' → Q o H'
section
variable {L : Lx} {pos p2 : Pos} {e : Expr} {f g : ESem}
theorem tO_bind {α : Type} {σ : L2.St} {Γ : Env} {T T1 : List RS} {H : Hp} {f : OSem} {k : Option Int → Env → Rs α} {Kp : α → Env → Prop} {R : Option Int → Hp → Prop} (hl : Γ.length = σ.length) (hs : T.Sublist T1) (st : St L (σ.zip Γ ++ T1) H)
    (h : Pst L σ T ((f Γ).bind k) Kp) (hR : ∀ d Γ' H', Γ'.length = σ.length → St L (σ.zip Γ' ++ T1) H' → Pst L σ T (k d Γ') Kp → R d H') : tO L f σ H R := by
  refine ⟨Γ, T1, hl, st, ?_⟩
  cases e : f Γ with
  | ok d Γ' => rw [e] at h; exact fun hl' H' o => hR d Γ' H' hl' o h
  | ex x Γ' => rw [e] at h; exact Pst.mono (α := α) (r := Rs.ex x Γ') (k := Kp) hs h
  | no => rw [e] at h; exact h
theorem poI {X : Cx} {e : Option Expr} {t t' : TO} (h : PO X e t) (i : ∀ σ H Q, t' σ H Q → t σ H Q) : PO X e t' :=
  ⟨fun pins s σ H Q I q => h.run pins s σ H Q I (i σ H Q q)⟩
theorem o_no : PO L.X none (tO L oNo) := poI po_none fun σ H Q q => by
  obtain ⟨Γ, T, hl, st, q⟩ := q
  exact q hl H st
theorem o_some (h : PE L.X e (tE L f)) : PO L.X (some e) (tO L (oSome f)) := poI (po_some h) fun σ H Q q => by
  obtain ⟨Γ, T, hl, st, q⟩ := q
  refine tE_bind hl (List.Sublist.refl T) st q fun d Γ1 x H1 hl1 o1 h1 => ?_
  cases e : vw Γ1 d with
  | none => simp only [e] at h1; exact h1.elim
  | some p =>
    simp only [e] at h1
    cases p with
    | int i => exact ⟨i, rv_int (view_of o1.st o1.has e), h1 hl1 H1 o1.back⟩
    | _ => exact h1.elim
/-- a list's slice, any step but 0 -/
def rSl3 (K : PySem.W.Frag) : V → Option Int → Option Int → Option Int → Hp → VK → Prop := fun x lo hi st H Q => ∃ a xs, x = .ref a ∧ SqL K H a xs ∧ st ≠ some 0 ∧ ∀ p, H p = none → Q (.ref p) (upd H p (.lst (slP xs lo hi st)))
theorem vals_pick {xs : List V} {us : List Value} (r : Vals xs us) : ∀ ix : List Nat, Vals (ix.filterMap (xs[·]?)) (ix.filterMap (us[·]?))
  | [] => .nil
  | i :: ix => by
    rw [List.filterMap_cons, List.filterMap_cons]
    cases e : xs[i]? with
    | none => rw [r.none_of e]; exact vals_pick r ix
    | some x =>
      obtain ⟨u, eu, ru⟩ := r.get e
      rw [eu]
      exact .cons ru (vals_pick r ix)
theorem RpA.pick {K : PySem.W.Frag} {mg : Str → Option Value} {H : Hp} {ps : List PV} {xs : List V} (h : RpA K mg H ps xs) : ∀ ix : List Nat, RpA K mg H (ix.filterMap (ps[·]?)) (ix.filterMap (xs[·]?))
  | [] => rfl
  | i :: ix => by
    rw [List.filterMap_cons, List.filterMap_cons]
    cases e : ps[i]? with
    | none =>
      have : xs[i]? = none := by
        rw [List.getElem?_eq_none_iff] at e ⊢
        rw [h.len]; exact e
      rw [this]
      exact RpA.pick h ix
    | some p =>
      obtain ⟨x, ex, q⟩ := h.get e
      rw [ex]
      exact ⟨x, _, rfl, q, RpA.pick h ix⟩
end

def cutP {α : Type} (xs : List α) (lo hi : Option Int) : List α := (xs.drop (HT.sIx xs.length 0 lo)).take (HT.sIx xs.length xs.length hi - HT.sIx xs.length 0 lo)
theorem RpA.cut {K : PySem.W.Frag} {mg : Str → Option Value} {H : Hp} {ps : List PV} {xs : List V} (h : RpA K mg H ps xs) (lo hi : Option Int) : RpA K mg H (cutP ps lo hi) (cutV xs lo hi) := by
  unfold cutP cutV
  rw [h.len]
  exact (h.drop _).take _
def slS (p : PV) (lo hi : Option Int) : Option Rv :=
  match p with
  | .lst ps => some (.tmp (.lst (cutP ps lo hi)))
  | .tup ps => some (.val (.tup (cutP ps lo hi)))
  | .str s => if s.length ≤ sizeLine then some (.val (.str (cutS s lo hi))) else none
  | _ => none
def sl3S (p : PV) (lo hi st : Option Int) : Option Rv :=
  match p with
  | .lst ps => if st = some 0 then none else some (.tmp (.lst (slP ps lo hi st)))
  | _ => none
def eSl (f : ESem) (l h : OSem) : ESem := fun Γ => (f Γ).bind fun d Γ1 => (l Γ1).bind fun lo Γ2 => (h Γ2).bind fun hi Γ3 => match (vw Γ3 d).bind fun p => slS p lo hi with
  | some r => .ok r.opd Γ3
  | none => .no
def sl3k3 (d : Opd) (lo hi st : Option Int) : Env → Rs Opd := fun Γ4 => match (vw Γ4 d).bind fun p => sl3S p lo hi st with
  | some r => .ok r.opd Γ4
  | none => .no
def sl3k2 (k : OSem) (d : Opd) (lo hi : Option Int) : Env → Rs Opd := fun Γ3 => (k Γ3).bind (sl3k3 d lo hi)
def sl3k1 (h k : OSem) (d : Opd) (lo : Option Int) : Env → Rs Opd := fun Γ2 => (h Γ2).bind (sl3k2 k d lo)
def sl3k0 (l h k : OSem) (d : Opd) : Env → Rs Opd := fun Γ1 => (l Γ1).bind (sl3k1 h k d)
def eSl3 (f : ESem) (l h k : OSem) : ESem := fun Γ => (f Γ).bind (sl3k0 l h k)
section
variable {L : Lx} {pos p2 : Pos} {e : Expr} {lo hi st : Option Expr} {f : ESem} {l h k : OSem}
theorem e_sl (he : PE L.X e (tE L f)) (hl : PO L.X lo (tO L l)) (hh : PO L.X hi (tO L h)) : PE L.X (.Subscript e (.Slice lo hi none p2) pos) (tE L (eSl f l h)) := peI (pe_slice (sl_list.or (sl_tupA.or sl_str)) he hl hh) fun σ H Q q => by
  obtain ⟨Γ, T, hl, st, q⟩ := q
  refine tE_bind hl (List.Sublist.refl T) st q fun d Γ1 x H1 hl1 o1 h1 => ?_
  refine tO_bind hl1 (psh_sub d x T) o1.st h1 fun a Γ2 H2 hl2 o2 h2 => ?_
  refine tO_bind hl2 (psh_sub d x T) o2 h2 fun b Γ3 H3 hl3 o3 h3 => ?_
  cases ev : vw Γ3 d with
  | none => simp only [ev, Option.bind_none] at h3; exact h3.elim
  | some p =>
    simp only [ev, Option.bind_some] at h3
    have rv := view_of o3 o1.has ev
    cases p with
    | lst ps =>
      obtain ⟨ad, xs, e1, e2, e3⟩ := rv_lst rv
      exact .inl ⟨ad, xs, e1, e2, fun p hp => h3 hl3 _ _ (OpP.fin (fun i z => nomatch z) (psh_sub d x T) (o3.new_list (e3.cut a b) hp))⟩
    | tup ps =>
      obtain ⟨ad, xs, e1, e2, e3⟩ := rv_tup rv
      refine .inr (.inl ⟨ad, xs, e1, e2, fun hw => ?_, fun hw p hp => h3 hl3 _ _ (OpP.fin (fun i z => nomatch z) (psh_sub d x T) (o3.new_tup (e3.cut a b) hp))⟩)
      have ec : cutP ps a b = ps := by
        unfold cutP
        rw [e3.len] at hw
        rw [hw.1, hw.2, List.drop_zero, Nat.sub_zero, List.take_length]
      refine h3 hl3 _ _ (OpP.fin (fun i z => nomatch z) (psh_sub d x T) (o3.push_val ?_))
      rw [ec]
      exact ⟨ad, xs, rfl, e2, e3⟩
    | str s =>
      simp only [slS] at h3
      by_cases hz : s.length ≤ sizeLine
      · rw [if_pos hz] at h3
        exact .inr (.inr ⟨s, rv_str rv, hz, h3 hl3 _ _ (OpP.fin (fun i z => nomatch z) (psh_sub d x T) (o3.push_val (v := .str (cutS s a b)) (p := .str (cutS s a b)) rfl))⟩)
      · rw [if_neg hz] at h3; exact h3.elim
    | _ => exact h3.elim
theorem e_sl3 {st : Expr} (he : PE L.X e (tE L f)) (hl : PO L.X lo (tO L l)) (hh : PO L.X hi (tO L h)) (hk : PO L.X (some st) (tO L k)) : PE L.X (.Subscript e (.Slice lo hi (some st) p2) pos) (tE L (eSl3 f l h k)) := by
  refine ⟨fun pins s σ H Q I q => ?_⟩
  obtain ⟨Γ, T, hl0, st0, q⟩ := q
  let KK : Opd → Env → Prop := fun d Γ' => ∀ v H', OpP L σ Γ' T d v H' → Q v H'
  have q1 : tE L f σ H fun x H1 => ∃ d Γ1, Γ1.length = σ.length ∧ OpP L σ Γ1 T d x H1 ∧ Pst L σ T (sl3k0 l h k d Γ1) KK := tE_bind hl0 (List.Sublist.refl T) st0 q fun d Γ1 x H1 hl1 o1 h1 => ⟨d, Γ1, hl1, o1, h1⟩
  refine Subscript_ (thn (he.run pins s σ H _ I q1) fun v s1 ⟨x, H1, I1, r1, d, Γ1, hl1, o1, h1⟩ => ?_)
  have q2 : tO L l σ H1 fun a H2 => ∃ Γ2, Γ2.length = σ.length ∧ St L (σ.zip Γ2 ++ psh d x T) H2 ∧ Pst L σ T (sl3k1 h k d a Γ2) KK := tO_bind hl1 (psh_sub d x T) o1.st h1 fun a Γ2 H2 hl2 o2 h2 => ⟨Γ2, hl2, o2, h2⟩
  refine wpAny_Slice (thn (hl.run pins s1 σ H1 _ I1 q2) fun vl s2 ⟨a, H2, I2, pl, Γ2, hl2, o2, h2⟩ => ?_)
  have q3 : tO L h σ H2 fun b H3 => ∃ Γ3, Γ3.length = σ.length ∧ St L (σ.zip Γ3 ++ psh d x T) H3 ∧ Pst L σ T (sl3k2 k d a b Γ3) KK := tO_bind hl2 (psh_sub d x T) o2 h2 fun b Γ3 H3 hl3 o3 h3 => ⟨Γ3, hl3, o3, h3⟩
  refine thn (hh.run pins s2 σ H2 _ I2 q3) fun vu s3 ⟨b, H3, I3, pu, Γ3, hl3, o3, h3⟩ => ?_
  have q4 : tO L k σ H3 fun c H4 => ∃ Γ4, Γ4.length = σ.length ∧ St L (σ.zip Γ4 ++ psh d x T) H4 ∧ Pst L σ T (sl3k3 d a b c Γ4) KK := tO_bind hl3 (psh_sub d x T) o3 h3 fun c Γ4 H4 hl4 o4 h4 => ⟨Γ4, hl4, o4, h4⟩
  refine thn (hk.run pins s3 σ H3 _ I3 q4) fun vs s4 ⟨c, H4, I4, ps, Γ4, hl4, o4, h4⟩ => ?_
  unfold sl3k3 at h4
  have I5 : L2.Inv L.X pins σ H4 { s4 with heap := s4.heap.push { cls := .type "slice", data := .fields #[vl, vu, vs] } } := I4.kept (t' := s4.toks) fun b ob q => Heap.get?_push_of_some _ q
  cases ev : vw Γ4 d with
  | none => simp only [ev, Option.bind_none] at h4; exact h4.elim
  | some p =>
    simp only [ev, Option.bind_some] at h4
    have rv := view_of o4 o1.has ev
    cases p with
    | lst pz =>
      simp only [sl3S] at h4
      by_cases hz : c = some 0
      · rw [if_pos hz] at h4; exact h4.elim
      · rw [if_neg hz] at h4
        obtain ⟨ad, xs, e1, e2, e3⟩ := rv_lst rv
        subst e1
        cases r1
        obtain ⟨its, r, ht, hsz⟩ := I5.list e2
        have hsz' : its.length ≤ sizeLine := by rw [← r.length]; exact hsz
        refine tail_any (ops := [.ref ad, .ref s4.heap.objs.size]) ht.isList.typeIs slot_list_getitem.lookup ?_ (by with_unfolding_all rfl)
        refine wpAny_getItem_list_slice ht.isList (Heap.IsSliceOf.new ..) pl pu ps hz ?_ (by rw [List.size_toArray]; exact hsz')
        have ep : slicePick its.toArray a b c = (slP its a b c).toArray := by
          unfold slicePick slP slIx
          simp only [List.size_toArray, List.getElem?_toArray]
        rw [ep]
        have el : slP its a b c = (slIx xs.length a b c).filterMap (its[·]?) := by unfold slP; rw [r.length]
        have len : (slP xs a b c).length ≤ sizeLine := by
          have := slicePick_size_le its.toArray a b c
          rw [ep, List.size_toArray, List.size_toArray] at this
          have e2 := (vals_pick r (slIx xs.length a b c)).length
          rw [← el] at e2
          show ((slIx xs.length a b c).filterMap (xs[·]?)).length ≤ _
          omega
        have hn : H4 (s4.heap.push { cls := .type "slice", data := .fields #[vl, vu, vs] }).objs.size = none := I5.hok.fresh (Nat.le_refl _)
        refine ⟨.ref _, _, I5.laid (t' := s4.toks) (o := .lst (slP xs a b c)) (fun b ob q => Heap.get?_push_of_some _ q) (Nat.le_refl _) ⟨len, slP its a b c, 0, ?_, Heap.get?_push_size _ rfl⟩, rfl, ?_⟩
        · rw [el]; exact vals_pick r _
        · refine h4 hl4 _ _ (OpP.fin (fun i z => nomatch z) (psh_sub d _ T) (o4.new_list ?_ hn))
          have := e3.pick (slIx pz.length a b c)
          unfold slP
          rw [e3.len]
          exact this
    | _ => exact h4.elim
end

/-! ### stores to items, methods that write -/
/-- xs[i] = v -/
def stS : OV → PV → PV → Option OV
  | .lst ps, .int k, v => (ixN ps.length k).map fun j => .lst (ps.set j v)
  | _, _, _ => none
/-- the target j[i] -/
def gI (op : OV → PV → PV → Option OV) (j : Nat) (f : ESem) : GSem := fun p Γ =>
  match Γ[j]? with
  | some (.ow _) =>
    match f Γ with
    | .ok d Γ1 =>
      match vw Γ1 d, Γ1[j]? with
      | some q, some (.ow o) => (op o q p).map fun o' => Γ1.set j (.ow o')
      | _, _ => none
    | _ => none
  | _ => none
/-- what a store to an own object asks, by its rule -/
def OpW (L : Lx) (op : OV → PV → PV → Option OV) (t : TSet) : Prop := ∀ (a : Addr) (o o' : OV) (q p : PV) (i v : V) (H : Hp) (Q : Hp → Prop), OwnO L.X.K L.X.mg H a o → RpV L.X.K L.X.mg H q i → Rp L.X.K L.X.mg H p v → op o q p = some o' →
  (∀ u, OwnO L.X.K L.X.mg (upd H a u) a o' → Q (upd H a u)) → t (.ref a) i v H Q
section
variable {L : Lx} {pos : Pos}
theorem stS_w : OpW L stS rSetL := fun a o o' q p i v H Q ho hq hp e hQ => by
  cases o <;> try cases e
  cases q <;> try cases e
  rename_i ps k
  have e : (ixN ps.length k).map (fun j => OV.lst (ps.set j p)) = some o' := e
  cases e2 : ixN ps.length k with
  | none => rw [e2] at e; cases e
  | some j =>
    rw [e2] at e
    cases e
    obtain ⟨xs, h1, h2⟩ := ho
    refine ⟨a, xs, k, j, rfl, rv_int hq, h1, by rw [h2.len]; exact e2, hQ _ ⟨_, upd_same, ?_⟩⟩
    exact RpA.le (Le.write h1 trivial) _ _ (h2.set j hp)
theorem St.putS {σ : L2.St} {R : List RS} {H : Hp} {Γ : Env} {j : Nat} {o o' : OV} {a : Addr} {u : HO} (st : St L (σ.zip Γ ++ R) H) (hs : σ[j]? = some (some (.ref a))) (hj : Γ[j]? = some (.ow o)) (q : OwnO L.X.K L.X.mg (upd H a u) a o') : St L (σ.zip (Γ.set j (.ow o')) ++ R) (upd H a u) := by
  obtain ⟨rs, p1, p2⟩ := zip_front hs hj
  have p3 := p2 (some (.ref a)) (.ow o')
  rw [set_self hs] at p3
  exact ((st.perm (p1.append_right R)).write a o o' u q).perm (p3.symm.append_right R)
theorem g_ix {op : OV → PV → PV → Option OV} {t : TSet} {j : Nat} {x : Str} {px : Pos} {b : Expr} {f : ESem} (hop : OpW L op t) (ht : PSet L.X t) (hv : PE L.X (.Name x px) (tVar j)) (hb : PE L.X b (tE L f))
    (ha : ∀ v, assign (.Subscript (.Name x px) b pos) L.X.env v = (do
      let ov ← holding [v] (eval (.Name x px) L.X.env)
      let iv ← holding [v, ov] (eval b L.X.env)
      standAt pos
      holding [v, ov, iv] (setItem ov iv v)
      release [v, ov, iv] [])) : PG L.X (.Subscript (.Name x px) b pos) (tG L (gI op j f)) := pgI (pg_sub hv hb ht ha) fun v σ H Q q => by
  obtain ⟨Γ, R, p, hl, hp, st, Γ', e1, q⟩ := q
  unfold gI at e1
  cases ej0 : Γ[j]? with
  | none => rw [ej0] at e1; cases e1
  | some sl0 =>
  cases sl0 with
  | un => rw [ej0] at e1; cases e1
  | sh p0 => rw [ej0] at e1; cases e1
  | ow o0 =>
  rw [ej0] at e1
  simp only at e1
  have st1 : St L (σ.zip Γ ++ ((some v, .sh p) :: R)) H := st.perm List.perm_middle.symm
  obtain ⟨v0, hv0⟩ := slot_v hl ej0
  obtain ⟨a, ea, _⟩ := st1.rel (v0, .ow o0) (List.mem_append_left _ (List.mem_of_getElem? (i := j) (by rw [List.getElem?_zip_eq_some]; exact ⟨hv0, ej0⟩)))
  have ea : v0 = some (.ref a) := ea
  subst ea
  cases ef : f Γ with
  | ex x Γ1 => rw [ef] at e1; cases e1
  | no => rw [ef] at e1; cases e1
  | ok d Γ1 =>
    rw [ef] at e1
    simp only at e1
    cases ev : vw Γ1 d with
    | none => rw [ev] at e1; cases e1
    | some w =>
      cases ej : Γ1[j]? with
      | none => rw [ev, ej] at e1; cases e1
      | some sl =>
        cases sl with
        | un => rw [ev, ej] at e1; cases e1
        | sh p => rw [ev, ej] at e1; cases e1
        | ow o =>
          rw [ev, ej] at e1
          simp only at e1
          cases eo : op o w p with
          | none => rw [eo] at e1; cases e1
          | some o' =>
            rw [eo] at e1
            cases e1
            refine ⟨.ref a, hv0, Γ, (some v, .sh p) :: R, hl, st1, ?_⟩
            rw [ef]
            refine fun hl1 i H2 o1 => ?_
            have rv := view_of o1.st o1.has ev
            have st2 : St L (σ.zip Γ1 ++ ((some v, .sh p) :: R)) H2 := o1.back
            obtain ⟨b, eb, qb⟩ := st2.rel (some (.ref a), .ow o) (List.mem_append_left _ (zip_mem hv0 ej))
            cases eb
            obtain ⟨x, ex, rp⟩ := st2.rel (some v, .sh p) (List.mem_append_right _ List.mem_cons_self)
            cases ex
            refine hop a o o' w p i v H2 _ qb rv rp eo fun u hu => ?_
            have st3 := St.putS st2 hv0 ej hu
            exact q σ _ (by rw [List.length_set]; exact hl1) rfl hp (st3.sub (List.Sublist.append (List.Sublist.refl _) (List.sublist_cons_self _ _)))
end
end Mv
end S10_

section S11_
set_option Elab.async false
set_option linter.all false
set_option maxRecDepth 100000
namespace Mv
open PySem PySem.Spec PyProof.Rows L2
open RZ

/-! ### methods that write one's own list -/
def isLst : OV → Bool
  | .lst _ => true
  | _ => false
def eM (kd : OV → Bool) (op : OV → List PV → Option (OV × PV)) (j : Nat) (a : ASem) : ESem := fun Γ =>
  match Γ[j]? with
  | some (.ow o0) =>
    if kd o0 then
      (a Γ).bind fun ds Γ1 =>
        match valsO ds, Γ1[j]? with
        | some ps, some (.ow o) =>
          match op o ps with
          | some z => .ok (.val z.2) (Γ1.set j (.ow z.1))
          | none => .no
        | _, _ => .no
    else .no
  | _ => .no
def OpMW (L : Lx) (op : OV → List PV → Option (OV × PV)) (r : V → List V → Hp → VK → Prop) : Prop := ∀ (a : Addr) (o : OV) (z : OV × PV) (ps : List PV) (ys : List V) (H : Hp) (Q : VK), OwnO L.X.K L.X.mg H a o → RpA L.X.K L.X.mg H ps ys → op o ps = some z →
  (∀ u v, OwnO L.X.K L.X.mg (upd H a u) a z.1 → Rp L.X.K L.X.mg (upd H a u) z.2 v → Q v (upd H a u)) → r (.ref a) ys H Q
def mAppend : OV → List PV → Option (OV × PV)
  | .lst ps, [p] => if ps.length < sizeLine then some (.lst (ps ++ [p]), .non) else none
  | _, _ => none
def mPop : OV → List PV → Option (OV × PV)
  | .lst ps, [] => (ps[ps.length - 1]?).map fun p => (.lst ps.dropLast, p)
  | _, _ => none
def mPopAt : OV → List PV → Option (OV × PV)
  | .lst ps, [.int i] =>
    if decide (-(2 ^ 63) ≤ i) && decide (i < 2 ^ 63) then
      (seqIndex? i ps.length).bind fun k => (ps[k]?).map fun p => (.lst (ps.eraseIdx k), p)
    else none
  | _, _ => none
section
variable {L : Lx} {apos cpos px : Pos} {e : Expr} {es : List Expr} {a : ASem} {j : Nat} {x name : Str} {id : String} {r : V → List V → Hp → VK → Prop} {op : OV → List PV → Option (OV × PV)}
theorem mAppend_w : OpMW L mAppend rAppend := fun a o z ps ys H Q ho hp e hQ => by
  cases o <;> try (cases ps <;> cases e)
  rename_i qs
  cases ps with
  | nil => cases e
  | cons p ps =>
    cases ps with
    | cons _ _ => cases e
    | nil =>
      have e : (if qs.length < sizeLine then some (OV.lst (qs ++ [p]), PV.non) else none) = some z := e
      split at e
      · rename_i hz
        cases e
        obtain ⟨xs, h1, h2⟩ := ho
        obtain ⟨y, r, e1, h3, h4⟩ := hp
        have h4 : r = [] := h4
        subst h4 e1
        refine ⟨a, xs, y, rfl, rfl, h1, by rw [h2.len]; exact hz, hQ _ _ ⟨_, upd_same, ?_⟩ rfl⟩
        exact RpA.le (Le.write h1 trivial) _ _ (h2.app (RpA.one h3))
      · cases e
theorem mPop_w : OpMW L mPop rPop := fun a o z ps ys H Q ho hp e hQ => by
  cases o <;> try (cases ps <;> cases e)
  rename_i qs
  cases ps with
  | cons _ _ => cases e
  | nil =>
    have hp : ys = [] := hp
    subst hp
    have e : (qs[qs.length - 1]?).map (fun p => (OV.lst qs.dropLast, p)) = some z := e
    cases e2 : qs[qs.length - 1]? with
    | none => rw [e2] at e; cases e
    | some p =>
      rw [e2] at e
      cases e
      obtain ⟨xs, h1, h2⟩ := ho
      obtain ⟨y, e3, h3⟩ := h2.get e2
      refine ⟨a, xs, y, rfl, rfl, h1, by rw [h2.len]; exact e3, hQ _ _ ⟨_, upd_same, ?_⟩ (Rp.le (Le.write h1 trivial) _ _ h3)⟩
      rw [List.dropLast_eq_take, List.dropLast_eq_take, h2.len]
      exact RpA.le (Le.write h1 trivial) _ _ (h2.take _)
theorem mPopAt_w : OpMW L mPopAt rPopAt := fun a o z ps ys H Q ho hp e hQ => by
  cases o <;> try (cases ps <;> cases e)
  rename_i qs
  cases ps with
  | nil => cases e
  | cons p ps =>
    cases ps with
    | cons _ _ => cases p <;> cases e
    | nil =>
      cases p <;> try cases e
      rename_i i
      have e : (if decide (-(2 ^ 63) ≤ i) && decide (i < 2 ^ 63) then (seqIndex? i qs.length).bind fun k => (qs[k]?).map fun p => (OV.lst (qs.eraseIdx k), p) else none) = some z := e
      split at e
      · rename_i hz
        rw [Bool.and_eq_true, decide_eq_true_eq, decide_eq_true_eq] at hz
        cases e1 : seqIndex? i qs.length with
        | none => rw [e1] at e; cases e
        | some k =>
          rw [e1] at e
          have e : (qs[k]?).map (fun p => (OV.lst (qs.eraseIdx k), p)) = some z := e
          cases e2 : qs[k]? with
          | none => rw [e2] at e; cases e
          | some p =>
            rw [e2] at e
            cases e
            obtain ⟨xs, h1, h2⟩ := ho
            obtain ⟨y, e3, h3⟩ := h2.get e2
            obtain ⟨v, r, e4, h5, h6⟩ := hp
            have h6 : r = [] := h6
            subst h6 e4
            have h5 : v = .int i := h5
            subst h5
            refine ⟨a, xs, i, k, y, rfl, rfl, h1, hz.1, hz.2, by rw [h2.len]; exact e1, e3, hQ _ _ ⟨_, upd_same, ?_⟩ (Rp.le (Le.write h1 trivial) _ _ h3)⟩
            exact RpA.le (Le.write h1 trivial) _ _ (h2.eraseIdx k)
      · cases e
theorem eM_go (hop : OpMW L op r) {σ : L2.St} {H : Hp} {Q : VK} (h : tE L (eM isLst op j a) σ H Q) : tBM L.X.K "list" r (tVar j) (tA L a) σ H Q := by
  obtain ⟨Γ, T, hl, st, h⟩ := h
  unfold eM at h
  cases ej0 : Γ[j]? with
  | none => rw [ej0] at h; exact h.elim
  | some sl0 =>
  cases sl0 with
  | un => rw [ej0] at h; exact h.elim
  | sh p0 => rw [ej0] at h; exact h.elim
  | ow o0 =>
  rw [ej0] at h
  simp only at h
  by_cases hk : isLst o0 = true
  · rw [if_pos hk] at h
    obtain ⟨v0, hv0⟩ := slot_v hl ej0
    obtain ⟨ad, ea, qa⟩ := st.rel (v0, .ow o0) (List.mem_append_left _ (List.mem_of_getElem? (i := j) (by rw [List.getElem?_zip_eq_some]; exact ⟨hv0, ej0⟩)))
    have ea : v0 = some (.ref ad) := ea
    subst ea
    refine ⟨.ref ad, hv0, ?_, ?_⟩
    · cases o0 with
      | lst ps => obtain ⟨xs, h1, _⟩ := qa; exact .inl ⟨rfl, xs, .of h1⟩
      | _ => cases hk
    · refine tA_bind hl (List.Sublist.refl T) st h fun ds Γ1 vs H1 hl1 o1 h1 => ?_
      cases e1 : valsO ds with
      | none => simp only [e1] at h1; exact h1.elim
      | some ps =>
        cases e2 : Γ1[j]? with
        | none => simp only [e1, e2] at h1; exact h1.elim
        | some sl =>
          cases sl with
          | un => simp only [e1, e2] at h1; exact h1.elim
          | sh p => simp only [e1, e2] at h1; exact h1.elim
          | ow o =>
            simp only [e1, e2] at h1
            cases e3 : op o ps with
            | none => simp only [e3] at h1; exact h1.elim
            | some z =>
              simp only [e3] at h1
              have rp := vals_rp o1.st o1.len o1.has e1
              obtain ⟨b, eb, qb⟩ := o1.st.rel (some (.ref ad), .ow o) (List.mem_append_left _ (zip_mem hv0 e2))
              cases eb
              refine hop ad o z ps vs H1 Q qb rp e3 fun u v hu hv => ?_
              have st3 := St.putS o1.st hv0 e2 hu
              exact h1 (by rw [List.length_set]; exact hl1) v _ (OpP.fin (fun i z => nomatch z) (pshs_sub ds vs T) (st3.push_val hv))
  · rw [if_neg hk] at h; exact h.elim
theorem e_m (hop : OpMW L op r) (h : PE L.X e (tBM L.X.K "list" r (tVar j) (tA L a))) : PE L.X e (tE L (eM isLst op j a)) := peI h fun _ _ _ q => eM_go hop q
theorem e_m0 (hop : OpMW L op r) (h : PE L.X e (tBM0 L.X.K "list" r (tVar j))) : PE L.X e (tE L (eM isLst op j (aS []))) := peI h fun σ H Q q => by
  obtain ⟨x, hx, ty, q⟩ := eM_go hop q
  obtain ⟨Γ, T, hl, st, q⟩ := q
  exact ⟨x, hx, ty, q hl [] H ⟨st, rfl, fun i d v h => by simp at h⟩⟩
end

/-! ### stores through targets -/
def asgG (t : GSem) (f : ESem) : SSem := fun Γ => (eZ f Γ).fl fun d Γ1 =>
  match d with
  | .val p =>
    match t p Γ1 with
    | some Γ2 => .nx Γ2
    | none => .no
  | _ => .no
section
variable {L : Lx} {st : Stmt} {e : Expr} {f : ESem} {t : GSem} {g : TG}
theorem s_asgG (hs : PS L.X st (tAsg (tE L (eZ f)) (tG L t))) : PS L.X st (tS L (asgG t f)) := psI hs fun D σ H q => by
  obtain ⟨Γ, T, hl, hp, st, q⟩ := q
  refine tE_fl hl hp (List.Sublist.refl T) st q fun d Γ1 x H1 hl1 o1 h1 => ?_
  cases d with
  | val p =>
    simp only at h1
    cases et : t p Γ1 with
    | none => rw [et] at h1; exact h1.elim
    | some Γ2 =>
      rw [et] at h1
      exact ⟨Γ1, T, p, hl1, hp, o1.st.perm List.perm_middle, Γ2, et, fun σ' H' a b c d => h1 σ' H' (a) b c d⟩
  | _ => exact h1.elim
end

/-! ### ranges -/
def rgL (lo hi : Int) : List PV := (List.range (hi - lo).toNat).map fun (k : Nat) => PV.int (lo + k)
def rgOk (i : Int) : Bool := decide (-(2 ^ 62) ≤ i) && decide (i < 2 ^ 62)
def iRg1 (f : ESem) : ISem := fun Γ => (f Γ).bind fun d Γ' => match vw Γ' d with
  | some (.int j) => if rgOk j then .ok (rgL 0 j) Γ' else .no
  | _ => .no
def iRg2 (f g : ESem) : ISem := fun Γ => (f Γ).bind fun d Γ1 => (g Γ1).bind fun d2 Γ' => match vw Γ' d, vw Γ' d2 with
  | some (.int i), some (.int j) => if rgOk i && rgOk j then .ok (rgL i j) Γ' else .no
  | _, _ => .no
theorem rgOk_c {i : Int} (h : rgOk i = true) : -(2 ^ 62) ≤ i ∧ i < 2 ^ 62 := by
  unfold rgOk at h
  rw [Bool.and_eq_true, decide_eq_true_eq, decide_eq_true_eq] at h
  exact h
theorem it_rg {K : PySem.W.Frag} {mg : Str → Option Value} {T : List RS} {lo : Int} {n : Nat} : ItOk K mg T (Itr lo n) ((List.range n).map fun (k : Nat) => PV.int (lo + k)) := by
  refine ⟨fun H hT i p e => ?_, fun H hT => by show n ≤ _; simp⟩
  rw [List.getElem?_map] at e
  cases q : (List.range n)[i]? with
  | none => rw [q] at e; cases e
  | some k =>
    rw [q] at e
    have e : PV.int (lo + (k : Nat)) = p := Option.some.inj e
    subst e
    obtain ⟨hi, ek⟩ := List.getElem?_eq_some_iff.mp q
    rw [List.getElem_range] at ek
    subst ek
    rw [List.length_range] at hi
    exact ⟨hi, fun x H' ⟨h1, h2⟩ => ⟨.inl h1, h2⟩⟩
section
variable {L : Lx} {tg : Expr} {p pos : Pos} {a b e : Expr} {f g : ESem}
/-- one argument's place -/
theorem tA1_of {σ : L2.St} {H : Hp} {Q : List V → Hp → Prop} (h : tE L f σ H fun x H1 => Q [x] H1) : tCons (tE L f) tNil σ H Q := h
theorem i_rg1 (h : PI L.X tg e (iRng1 (tCons (tE L f) tNil))) : PI L.X tg e (tI L (iRg1 f)) := piI h fun σ H R q => by
  obtain ⟨Γ, T, hl, st, q⟩ := q
  refine tE_bind hl (List.Sublist.refl T) st q fun d Γ1 x H1 hl1 o1 h1 => ?_
  cases e : vw Γ1 d with
  | none => simp only [e] at h1; exact h1.elim
  | some p =>
    simp only [e] at h1
    cases p with
    | int j =>
      simp only at h1
      by_cases hk : rgOk j = true
      · rw [if_pos hk] at h1
        obtain ⟨k1, k2⟩ := rgOk_c hk
        refine ⟨j, by rw [rv_int (view_of o1.st o1.has e)], k1, k2, h1 hl1 _ _ _ (psh_sub _ _ _) o1.st ?_⟩
        unfold rgL
        rw [Int.sub_zero]
        exact it_rg
      · rw [if_neg hk] at h1; exact h1.elim
    | _ => exact h1.elim
theorem i_rg2 (h : PI L.X tg e (iRng2 (tCons (tE L f) (tCons (tE L g) tNil)))) : PI L.X tg e (tI L (iRg2 f g)) := piI h fun σ H R q => by
  obtain ⟨Γ, T, hl, st, q⟩ := q
  refine tE_bind hl (List.Sublist.refl T) st q fun d Γ1 x H1 hl1 o1 h1 => ?_
  refine tE_bind hl1 (psh_sub d x T) o1.st h1 fun d2 Γ2 y H2 hl2 o2 h2 => ?_
  cases e1 : vw Γ2 d with
  | none => simp only [e1] at h2; exact h2.elim
  | some p1 =>
    cases e2 : vw Γ2 d2 with
    | none => simp only [e1, e2] at h2; cases p1 <;> exact h2.elim
    | some p2 =>
      simp only [e1, e2] at h2
      have r1 := view_of o2.st (o1.has.up fun r hr => (psh_sub d2 y _).subset hr) e1
      have r2 := view_of o2.st o2.has e2
      cases p1 <;> try exact h2.elim
      cases p2 <;> try exact h2.elim
      rename_i i j
      simp only at h2
      by_cases hk : (rgOk i && rgOk j) = true
      · rw [if_pos hk] at h2
        rw [Bool.and_eq_true] at hk
        obtain ⟨k1, k2⟩ := rgOk_c hk.1
        obtain ⟨k3, k4⟩ := rgOk_c hk.2
        exact ⟨i, j, by rw [rv_int r1, rv_int r2], ⟨k1, k2, k3, k4⟩, h2 hl2 _ _ _ ((psh_sub d x T).trans (psh_sub d2 y _)) o2.st it_rg⟩
      · rw [if_neg hk] at h2; exact h2.elim
/-- list(range(..)), tuple(range(..)) -/
def rgSz (i j : Int) : Bool := rgOk i && rgOk j && decide ((j - i).toNat ≤ 2 ^ 24)
def eLR1 (f : ESem) : ESem := fun Γ => (f Γ).bind fun d Γ' => match vw Γ' d with
  | some (.int j) => if rgSz 0 j then .ok (.tmp (.lst (rgL 0 j))) Γ' else .no
  | _ => .no
def eLR2 (f g : ESem) : ESem := fun Γ => (f Γ).bind fun d Γ1 => (g Γ1).bind fun d2 Γ' => match vw Γ' d, vw Γ' d2 with
  | some (.int i), some (.int j) => if rgSz i j then .ok (.tmp (.lst (rgL i j))) Γ' else .no
  | _, _ => .no
def eTR1 (f : ESem) : ESem := fun Γ => (f Γ).bind fun d Γ' => match vw Γ' d with
  | some (.int j) => if rgSz 0 j then .ok (.val (.tup (rgL 0 j))) Γ' else .no
  | _ => .no
def eTR2 (f g : ESem) : ESem := fun Γ => (f Γ).bind fun d Γ1 => (g Γ1).bind fun d2 Γ' => match vw Γ' d, vw Γ' d2 with
  | some (.int i), some (.int j) => if rgSz i j then .ok (.val (.tup (rgL i j))) Γ' else .no
  | _, _ => .no
theorem rgSz_c {i j : Int} (h : rgSz i j = true) : RgOk i j := by
  unfold rgSz at h
  rw [Bool.and_eq_true, Bool.and_eq_true, decide_eq_true_eq] at h
  obtain ⟨k1, k2⟩ := rgOk_c h.1.1
  obtain ⟨k3, k4⟩ := rgOk_c h.1.2
  exact ⟨k1, k2, k3, k4, h.2⟩
theorem rgV_rp {K : PySem.W.Frag} {mg : Str → Option Value} {H : Hp} (i j : Int) : RpA K mg H (rgL i j) (rgV i j) := by
  unfold rgL rgV
  have : ∀ l : List Nat, RpA K mg H (l.map fun (k : Nat) => PV.int (i + k)) (l.map fun (k : Nat) => V.int (i + k)) := by
    intro l
    induction l with
    | nil => rfl
    | cons n l ih => exact ⟨_, _, rfl, rfl, ih⟩
  exact this _
theorem e_lr1 (h : PE L.X e (tLstRg (tRg1 (tE L f)))) : PE L.X e (tE L (eLR1 f)) := peI h fun σ H R q => by
  obtain ⟨Γ, T, hl, st, q⟩ := q
  refine tE_bind hl (List.Sublist.refl T) st q fun d Γ1 x H1 hl1 o1 h1 => ?_
  cases e : vw Γ1 d with
  | none => simp only [e] at h1; exact h1.elim
  | some p =>
    simp only [e] at h1
    cases p with
    | int j =>
      simp only at h1
      by_cases hk : rgSz 0 j = true
      · rw [if_pos hk] at h1
        exact ⟨j, rv_int (view_of o1.st o1.has e), rgSz_c hk, fun q hq => h1 hl1 _ _ (OpP.fin (fun i z => nomatch z) (psh_sub d x T) (o1.st.new_list (rgV_rp 0 j) hq))⟩
      · rw [if_neg hk] at h1; exact h1.elim
    | _ => exact h1.elim
theorem e_lr2 (h : PE L.X e (tLstRg (tRg2 (tE L f) (tE L g)))) : PE L.X e (tE L (eLR2 f g)) := peI h fun σ H R q => by
  obtain ⟨Γ, T, hl, st, q⟩ := q
  refine tE_bind hl (List.Sublist.refl T) st q fun d Γ1 x H1 hl1 o1 h1 => ?_
  refine tE_bind hl1 (psh_sub d x T) o1.st h1 fun d2 Γ2 y H2 hl2 o2 h2 => ?_
  cases e1 : vw Γ2 d with
  | none => simp only [e1] at h2; exact h2.elim
  | some p1 =>
    cases e2 : vw Γ2 d2 with
    | none => simp only [e1, e2] at h2; cases p1 <;> exact h2.elim
    | some p2 =>
      simp only [e1, e2] at h2
      have r1 := view_of o2.st (o1.has.up fun r hr => (psh_sub d2 y _).subset hr) e1
      have r2 := view_of o2.st o2.has e2
      cases p1 <;> try exact h2.elim
      cases p2 <;> try exact h2.elim
      rename_i i j
      simp only at h2
      by_cases hk : rgSz i j = true
      · rw [if_pos hk] at h2
        exact ⟨i, j, rv_int r1, rv_int r2, rgSz_c hk, fun q hq => h2 hl2 _ _ (OpP.fin (fun i z => nomatch z) ((psh_sub d x T).trans (psh_sub d2 y _)) (o2.st.new_list (rgV_rp i j) hq))⟩
      · rw [if_neg hk] at h2; exact h2.elim
theorem e_tr1 (h : PE L.X e (tTupRg (tRg1 (tE L f)))) : PE L.X e (tE L (eTR1 f)) := peI h fun σ H R q => by
  obtain ⟨Γ, T, hl, st, q⟩ := q
  refine tE_bind hl (List.Sublist.refl T) st q fun d Γ1 x H1 hl1 o1 h1 => ?_
  cases e : vw Γ1 d with
  | none => simp only [e] at h1; exact h1.elim
  | some p =>
    simp only [e] at h1
    cases p with
    | int j =>
      simp only at h1
      by_cases hk : rgSz 0 j = true
      · rw [if_pos hk] at h1
        exact ⟨j, rv_int (view_of o1.st o1.has e), rgSz_c hk, fun q hq => h1 hl1 _ _ (OpP.fin (fun i z => nomatch z) (psh_sub d x T) (o1.st.new_tup (rgV_rp 0 j) hq))⟩
      · rw [if_neg hk] at h1; exact h1.elim
    | _ => exact h1.elim
theorem e_tr2 (h : PE L.X e (tTupRg (tRg2 (tE L f) (tE L g)))) : PE L.X e (tE L (eTR2 f g)) := peI h fun σ H R q => by
  obtain ⟨Γ, T, hl, st, q⟩ := q
  refine tE_bind hl (List.Sublist.refl T) st q fun d Γ1 x H1 hl1 o1 h1 => ?_
  refine tE_bind hl1 (psh_sub d x T) o1.st h1 fun d2 Γ2 y H2 hl2 o2 h2 => ?_
  cases e1 : vw Γ2 d with
  | none => simp only [e1] at h2; exact h2.elim
  | some p1 =>
    cases e2 : vw Γ2 d2 with
    | none => simp only [e1, e2] at h2; cases p1 <;> exact h2.elim
    | some p2 =>
      simp only [e1, e2] at h2
      have r1 := view_of o2.st (o1.has.up fun r hr => (psh_sub d2 y _).subset hr) e1
      have r2 := view_of o2.st o2.has e2
      cases p1 <;> try exact h2.elim
      cases p2 <;> try exact h2.elim
      rename_i i j
      simp only at h2
      by_cases hk : rgSz i j = true
      · rw [if_pos hk] at h2
        exact ⟨i, j, rv_int r1, rv_int r2, rgSz_c hk, fun q hq => h2 hl2 _ _ (OpP.fin (fun i z => nomatch z) ((psh_sub d x T).trans (psh_sub d2 y _)) (o2.st.new_tup (rgV_rp i j) hq))⟩
      · rw [if_neg hk] at h2; exact h2.elim
end

/-! ### enumerate, zip of lists -/
def enumL (k : Nat) : List PV → List PV
  | [] => []
  | p :: r => .tup [.int k, p] :: enumL (k + 1) r
theorem enumL_at : ∀ (ps : List PV) (k i : Nat) (q : PV), (enumL k ps)[i]? = some q → ∃ p, ps[i]? = some p ∧ q = .tup [.int ((k + i : Nat) : Int), p]
  | [], k, i, q, h => by simp [enumL] at h
  | p :: r, k, 0, q, h => by
    simp [enumL] at h
    exact ⟨p, rfl, by rw [← h]; simp⟩
  | p :: r, k, i + 1, q, h => by
    obtain ⟨p', h1, h2⟩ := enumL_at r (k + 1) i q (by simpa [enumL] using h)
    exact ⟨p', by simpa using h1, by rw [h2, show k + 1 + i = k + (i + 1) by omega]⟩
theorem enumL_len : ∀ (ps : List PV) (k : Nat), (enumL k ps).length = ps.length
  | [], _ => rfl
  | p :: r, k => by simp [enumL, enumL_len r]
def iEn (f : ESem) : ISem := fun Γ => (eZ f Γ).bind fun d Γ' => match d with
  | .val (.lst ps) => .ok (enumL 0 ps) Γ'
  | _ => .no
def zipL : List PV → List PV → List PV
  | p :: ps, q :: qs => .tup [p, q] :: zipL ps qs
  | _, _ => []
theorem zipL_at : ∀ (ps qs : List PV) (i : Nat) (z : PV), (zipL ps qs)[i]? = some z → ∃ p q, ps[i]? = some p ∧ qs[i]? = some q ∧ z = .tup [p, q]
  | [], qs, i, z, h => by simp [zipL] at h
  | p :: ps, [], i, z, h => by simp [zipL] at h
  | p :: ps, q :: qs, 0, z, h => by simp [zipL] at h; exact ⟨p, q, rfl, rfl, h.symm⟩
  | p :: ps, q :: qs, i + 1, z, h => by
    obtain ⟨p', q', h1, h2, h3⟩ := zipL_at ps qs i z (by simpa [zipL] using h)
    exact ⟨p', q', by simpa using h1, by simpa using h2, h3⟩
theorem zipL_len : ∀ (ps qs : List PV), (zipL ps qs).length = min ps.length qs.length
  | [], qs => by simp [zipL]
  | p :: ps, [] => by simp [zipL]
  | p :: ps, q :: qs => by simp [zipL, zipL_len ps qs]
def iZp (f g : ESem) : ISem := fun Γ => (eZ f Γ).bind fun d Γ1 => (eZ g Γ1).bind fun d2 Γ' => match d, d2 with
  | .val (.lst ps), .val (.lst qs) => .ok (zipL ps qs) Γ'
  | .val (.tup ps), .val (.tup qs) => .ok (zipL ps qs) Γ'
  | _, _ => .no
section
variable {L : Lx} {tg : Expr} {p pos : Pos} {a b e : Expr} {f g : ESem}
theorem rp_pair {K : PySem.W.Frag} {mg : Str → Option Value} {H : Hp} {p q : PV} {x y : V} {T : Addr} (h : H T = none) (h1 : Rp K mg H p x) (h2 : Rp K mg H q y) : Rp K mg (upd H T (.tup [x, y])) (.tup [p, q]) (.ref T) :=
  ⟨T, [x, y], rfl, .of upd_same, x, [y], rfl, Rp.le (Le.fresh h) _ _ h1, y, [], rfl, Rp.le (Le.fresh h) _ _ h2, rfl⟩
theorem i_en (h : PI L.X tg e (iEnum L.X.K (tCons (tE L (eZ f)) tNil))) : PI L.X tg e (tI L (iEn f)) := piI h fun σ H R q => by
  obtain ⟨Γ, T, hl, st, q⟩ := q
  refine tE_bind hl (List.Sublist.refl T) st q fun d Γ1 x H1 hl1 o1 h1 => ?_
  cases d with
  | val p =>
    cases p with
    | lst ps =>
      obtain ⟨y, ey, a, xs, ea, hq, hr⟩ := o1.st.rel (some x, .sh (.lst ps)) (List.mem_append_right _ List.mem_cons_self)
      cases ey
      subst ea
      refine ⟨a, xs, rfl, hq.sq, h1 hl1 _ _ _ (psh_sub _ _ _) o1.st ⟨fun H2 hT i q e => ?_, fun H2 hT => ?_⟩⟩
      · obtain ⟨y, ey, b, ys, eb, hq2, hr2⟩ := hT (some (.ref a), .sh (.lst ps)) List.mem_cons_self
        cases ey; cases eb
        obtain ⟨p, ep, rfl⟩ := enumL_at ps 0 i q e
        obtain ⟨w, ew, rw'⟩ := hr2.get ep
        refine ⟨⟨ys, w, hq2.sq, ew⟩, fun v H3 ⟨T, w', e1, e2, e3, e4⟩ => ?_⟩
        have := e4 ys hq2.sq
        rw [ew] at this
        cases this
        subst e1 e3
        refine ⟨.inr ⟨T, _, e2, rfl⟩, ?_⟩
        rw [Nat.zero_add]
        exact rp_pair e2 rfl rw'
      · obtain ⟨y, ey, b, ys, eb, hq2, hr2⟩ := hT (some (.ref a), .sh (.lst ps)) List.mem_cons_self
        cases ey; cases eb
        exact ⟨ys, hq2.sq, by rw [enumL_len, hr2.len]; exact Nat.le_refl _⟩
    | _ => exact h1.elim
  | _ => exact h1.elim
theorem i_zp (h : PI L.X tg e (iZipA L.X.K (tCons (tE L (eZ f)) (tCons (tE L (eZ g)) tNil)))) : PI L.X tg e (tI L (iZp f g)) := piI h fun σ H R q => by
  obtain ⟨Γ, T, hl, st, q⟩ := q
  refine tE_bind hl (List.Sublist.refl T) st q fun d Γ1 x H1 hl1 o1 h1 => ?_
  refine tE_bind hl1 (psh_sub d x T) o1.st h1 fun d2 Γ2 y H2 hl2 o2 h2 => ?_
  cases d with
  | tmp o => exact h2.elim
  | plc i => exact h2.elim
  | val p =>
    cases d2 with
    | tmp o => cases p <;> exact h2.elim
    | plc i => cases p <;> exact h2.elim
    | val q =>
      have m1 : (some x, Slot.sh p) ∈ psh (.val q) y (psh (.val p) x T) := List.mem_cons_of_mem _ List.mem_cons_self
      have m2 : (some y, Slot.sh q) ∈ psh (.val q) y (psh (.val p) x T) := List.mem_cons_self
      cases p <;> try (cases q <;> exact h2.elim)
      · cases q <;> try exact h2.elim
        rename_i ps qs
        obtain ⟨x', ex, a, xs, ea, hq, hr⟩ := o2.st.rel _ (List.mem_append_right _ m1)
        obtain ⟨y', ey, b, ys, eb, hq', hr'⟩ := o2.st.rel _ (List.mem_append_right _ m2)
        cases ex; cases ey
        subst ea eb
        refine ⟨a, b, xs, ys, rfl, .inr ⟨hq, hq', h2 hl2 _ _ _ ((psh_sub _ _ _).trans (psh_sub _ _ _)) o2.st ⟨fun H3 hT i z e => ?_, fun H3 hT => ?_⟩⟩⟩
        · obtain ⟨x', ex, a', xs2, ea, k1, k2⟩ := hT _ m1
          obtain ⟨y', ey, b', ys2, eb, k3, k4⟩ := hT _ m2
          cases ex; cases ey; cases ea; cases eb
          obtain ⟨p, q, e1, e2, rfl⟩ := zipL_at ps qs i z e
          obtain ⟨u, eu, ru⟩ := k2.get e1
          obtain ⟨v, ev, rv⟩ := k4.get e2
          refine ⟨⟨xs2, ys2, u, v, k1, k3, eu, ev⟩, fun w H4 ⟨T', u', v', f1, f2, f3, f4, f5⟩ => ?_⟩
          have g1 := f4 xs2 k1
          have g2 := f5 ys2 k3
          rw [eu] at g1; rw [ev] at g2
          cases g1; cases g2
          subst f1 f3
          exact ⟨.inr ⟨T', _, f2, rfl⟩, rp_pair f2 ru rv⟩
        · obtain ⟨x', ex, a', xs2, ea, k1, k2⟩ := hT _ m1
          obtain ⟨y', ey, b', ys2, eb, k3, k4⟩ := hT _ m2
          cases ex; cases ey; cases ea; cases eb
          refine ⟨xs2, ys2, k1, k3, ?_⟩
          rw [zipL_len, k2.len, k4.len]
          omega
      · cases q <;> try exact h2.elim
        rename_i ps qs
        obtain ⟨x', ex, a, xs, ea, hq, hr⟩ := o2.st.rel _ (List.mem_append_right _ m1)
        obtain ⟨y', ey, b, ys, eb, hq', hr'⟩ := o2.st.rel _ (List.mem_append_right _ m2)
        cases ex; cases ey
        subst ea eb
        refine ⟨a, b, xs, ys, rfl, .inl ⟨hq.sq, hq'.sq, h2 hl2 _ _ _ ((psh_sub _ _ _).trans (psh_sub _ _ _)) o2.st ⟨fun H3 hT i z e => ?_, fun H3 hT => ?_⟩⟩⟩
        · obtain ⟨x', ex, a', xs2, ea, k1, k2⟩ := hT _ m1
          obtain ⟨y', ey, b', ys2, eb, k3, k4⟩ := hT _ m2
          cases ex; cases ey; cases ea; cases eb
          obtain ⟨p, q, e1, e2, rfl⟩ := zipL_at ps qs i z e
          obtain ⟨u, eu, ru⟩ := k2.get e1
          obtain ⟨v, ev, rv⟩ := k4.get e2
          refine ⟨⟨xs2, ys2, u, v, k1.sq, k3.sq, eu, ev⟩, fun w H4 ⟨T', u', v', f1, f2, f3, f4, f5⟩ => ?_⟩
          have g1 := f4 xs2 k1.sq
          have g2 := f5 ys2 k3.sq
          rw [eu] at g1; rw [ev] at g2
          cases g1; cases g2
          subst f1 f3
          exact ⟨.inr ⟨T', _, f2, rfl⟩, rp_pair f2 ru rv⟩
        · obtain ⟨x', ex, a', xs2, ea, k1, k2⟩ := hT _ m1
          obtain ⟨y', ey, b', ys2, eb, k3, k4⟩ := hT _ m2
          cases ex; cases ey; cases ea; cases eb
          refine ⟨xs2, ys2, k1.sq, k3.sq, ?_⟩
          rw [zipL_len, k2.len, k4.len]
          omega
end
end Mv
end S11_

section S12_
set_option Elab.async false
set_option linter.all false
set_option maxRecDepth 100000
namespace Mv
open PySem PySem.Spec PyProof.Rows L2

/-! ### list comprehensions -/
def wipeE (Γ : Env) : List Nat → Env
  | [] => Γ
  | v :: vs => (wipeE Γ vs).set v .un
def rest (Γ0 : Env) : List Nat → Env → Env
  | [], Γ => Γ
  | v :: vs, Γ => rest Γ0 vs (Γ.set v (Γ0[v]?.getD .un))
def svd (σ : L2.St) (Γ : Env) (vs : List Nat) : List RS := vs.map fun i => ((σ[i]?).getD none, (Γ[i]?).getD .un)
theorem wipeE_len (Γ : Env) : ∀ vs, (wipeE Γ vs).length = Γ.length
  | [] => rfl
  | v :: vs => by unfold wipeE; rw [List.length_set, wipeE_len Γ vs]
theorem rest_len (Γ0 : Env) : ∀ (vs : List Nat) (Γ : Env), (rest Γ0 vs Γ).length = Γ.length
  | [], Γ => rfl
  | v :: vs, Γ => by unfold rest; rw [rest_len Γ0 vs, List.length_set]
theorem wipeE_out {Γ : Env} {i : Nat} : ∀ {vs : List Nat}, i ∉ vs → (wipeE Γ vs)[i]? = Γ[i]?
  | [], _ => rfl
  | v :: vs, h => by
    unfold wipeE
    rw [List.getElem?_set_ne (fun z => h (by rw [z]; exact List.mem_cons_self)), wipeE_out fun z => h (List.mem_cons_of_mem _ z)]
section
variable {L : Lx} {σ : L2.St} {Γ : Env} {R : List RS} {H : Hp}
theorem St.wipeS (hl : Γ.length = σ.length) : ∀ {vs : List Nat}, vs.Nodup → St L (σ.zip Γ ++ R) H → St L ((wipe σ vs).zip (wipeE Γ vs) ++ (svd σ Γ vs ++ R)) H
  | [], _, st => st
  | v :: vs, nd, st => by
    obtain ⟨nv, nd⟩ := List.nodup_cons.mp nd
    have ih := St.wipeS hl nd st
    show St L (((wipe σ vs).set v none).zip ((wipeE Γ vs).set v .un) ++ (((σ[v]?).getD none, (Γ[v]?).getD .un) :: (svd σ Γ vs ++ R))) H
    have e1 : (wipe σ vs)[v]? = σ[v]? := wipe_out nv
    have e2 : (wipeE Γ vs)[v]? = Γ[v]? := wipeE_out nv
    by_cases hv : v < Γ.length
    · have g1 : σ[v]? = some σ[v] := List.getElem?_eq_getElem (by omega)
      have g2 : Γ[v]? = some Γ[v] := List.getElem?_eq_getElem hv
      obtain ⟨rs, p1, p2⟩ := zip_front (e1.trans g1) (e2.trans g2)
      rw [g1, g2]
      have s1 : St L ((σ[v], Γ[v]) :: (rs ++ (svd σ Γ vs ++ R))) H := ih.perm (p1.append_right _)
      have s2 : St L ((none, .un) :: (σ[v], Γ[v]) :: (rs ++ (svd σ Γ vs ++ R))) H := s1.push_un
      refine s2.perm ?_
      refine List.Perm.trans ?_ ((p2 none .un).append_right _).symm
      exact (List.perm_middle (a := (σ[v], Γ[v])) (l₁ := rs) (l₂ := svd σ Γ vs ++ R)).symm.cons _
    · have g1 : σ[v]? = none := List.getElem?_eq_none (by omega)
      have g2 : Γ[v]? = none := List.getElem?_eq_none (by omega)
      rw [g1, g2, List.set_eq_of_length_le (by rw [wipe_length]; omega), List.set_eq_of_length_le (by rw [wipeE_len]; omega)]
      exact (ih.push_un (v := none)).perm List.perm_middle.symm
theorem St.restS {Γ0 : Env} (hl0 : Γ0.length = σ.length) : ∀ {vs : List Nat} {Γ : Env}, vs.Nodup → Γ.length = σ.length → St L ((wipe σ vs).zip Γ ++ (svd σ Γ0 vs ++ R)) H → St L (σ.zip (rest Γ0 vs Γ) ++ R) H
  | [], Γ, _, _, st => st
  | v :: vs, Γ, nd, hl, st => by
    obtain ⟨nv, nd⟩ := List.nodup_cons.mp nd
    refine St.restS hl0 (vs := vs) (Γ := Γ.set v (Γ0[v]?.getD .un)) nd (by rw [List.length_set]; exact hl) ?_
    have st : St L (((wipe σ vs).set v none).zip Γ ++ (((σ[v]?).getD none, (Γ0[v]?).getD .un) :: (svd σ Γ0 vs ++ R))) H := st
    have e1 : (wipe σ vs)[v]? = σ[v]? := wipe_out nv
    by_cases hv : v < σ.length
    · have g1 : σ[v]? = some σ[v] := List.getElem?_eq_getElem hv
      have g2 : Γ0[v]? = some Γ0[v] := List.getElem?_eq_getElem (by omega)
      have g3 : Γ[v]? = some Γ[v] := List.getElem?_eq_getElem (by omega)
      have g4 : ((wipe σ vs).set v none)[v]? = some none := List.getElem?_set_self (by rw [wipe_length]; exact hv)
      obtain ⟨rs, p1, p2⟩ := zip_front g4 g3
      rw [g1, g2] at st
      rw [g2]
      have s1 := st.perm (List.perm_middle (a := (σ[v], Γ0[v])))
      have s2 : St L ((σ[v], Γ0[v]) :: (none, Γ[v]) :: (rs ++ (svd σ Γ0 vs ++ R))) H := s1.perm ((p1.append_right _).cons _)
      have s3 := s2.sub ((List.sublist_cons_self (none, Γ[v]) (rs ++ (svd σ Γ0 vs ++ R))).cons_cons (σ[v], Γ0[v]))
      have p3 := p2 σ[v] Γ0[v]
      have e3 : (((wipe σ vs).set v none).set v σ[v]) = wipe σ vs := by
        rw [List.set_set]
        apply set_self
        rw [e1, g1]
      rw [e3] at p3
      exact s3.perm (p3.append_right _).symm
    · have g1 : σ[v]? = none := List.getElem?_eq_none (by omega)
      have g2 : Γ0[v]? = none := List.getElem?_eq_none (by omega)
      rw [g1, g2, List.set_eq_of_length_le (by rw [wipe_length]; omega)] at st
      rw [g2, List.set_eq_of_length_le (by omega)]
      exact (st.perm List.perm_middle).tail
end
theorem wipe_twice (σ : L2.St) : ∀ vs : List Nat, ∀ ws : List Nat, (∀ i ∈ ws, i ∈ vs) → wipe (wipe σ vs) ws = wipe σ vs
  | vs, [], _ => rfl
  | vs, w :: ws, h => by
    show (wipe (wipe σ vs) ws).set w none = _
    rw [wipe_twice σ vs ws fun i hi => h i (List.mem_cons_of_mem _ hi)]
    have hw := h w List.mem_cons_self
    by_cases hl : w < σ.length
    · have : (wipe σ vs)[w]? = some none := by
        clear h
        induction vs with
        | nil => cases hw
        | cons v vs ih =>
          unfold wipe
          by_cases hv : v = w
          · subst hv; exact List.getElem?_set_self (by rw [wipe_length]; exact hl)
          · rw [List.getElem?_set_ne hv]
            exact ih (by rcases List.mem_cons.mp hw with q | q; exact absurd q.symm hv; exact q)
      exact set_self this
    · exact List.set_eq_of_length_le (by rw [wipe_length]; omega)

abbrev Lx.blk (L : Lx) (s : Shared) (H : Hp) (scope : Scope) (cenv : PySem.Env) (fp : List Addr) : Lx := ⟨L.X.blk s H scope cenv fp, fun _ _ _ => False, L.B, L.M⟩
/-- any block of L: what blocks mean does not hang on which -/
abbrev Lx.bk (L : Lx) : Lx := L.blk L.X.s_0 L.X.H_0 L.X.env.scope L.X.env []
def lcL (tg : GSem) (t : TSem) (f : ESem) (vs : List Nat) : List PV → List PV → Env → Rs (List PV)
  | [], acc, Γ => .ok acc Γ
  | p :: ps, acc, Γ =>
    match tg p (wipeE Γ vs) with
    | none => .no
    | some Γ1 =>
      match t Γ1 with
      | .ok true Γ2 =>
        match eZ f Γ2 with
        | .ok (.val q) Γ3 => if acc.length < sizeLine then lcL tg t f vs ps (acc ++ [q]) (wipeE Γ3 vs) else .no
        | _ => .no
      | .ok false Γ2 => lcL tg t f vs ps acc (wipeE Γ2 vs)
      | _ => .no
def lcE (it : ISem) (tg : GSem) (t : TSem) (f : ESem) (vs : List Nat) : ESem := fun Γ =>
  (it Γ).bind fun ps Γ1 => (lcL tg t f vs ps [] (wipeE Γ1 vs)).bind fun qs Γ2 => .ok (.tmp (.lst qs)) (rest Γ1 vs Γ2)

/-! ### targets within a block: slots vs alone change -/
def tGv (L : Lx) (vs : List Nat) (t : GSem) : TG := fun v σ H Q => ∃ Γ R p, Γ.length = σ.length ∧ St L ((some v, .sh p) :: (σ.zip Γ ++ R)) H ∧ ∃ Γ', t p Γ = some Γ' ∧
  ∀ σ' H', Γ'.length = σ.length → σ'.length = σ.length → St L (σ'.zip Γ' ++ R) H' → wipe σ' vs = wipe σ vs → Q σ' H'
def tGvs (L : Lx) (ws : List Nat) (t : List PV → Env → Option Env) : TGs := fun vs σ H Q => ∃ Γ R ps, Γ.length = σ.length ∧ RpA L.X.K L.X.mg H ps vs ∧ St L (σ.zip Γ ++ R) H ∧ ∃ Γ', t ps Γ = some Γ' ∧
  ∀ σ' H', Γ'.length = σ.length → σ'.length = σ.length → St L (σ'.zip Γ' ++ R) H' → wipe σ' ws = wipe σ ws → Q σ' H'
theorem wipe_set {σ : L2.St} {i : Nat} {x : Option V} : ∀ {vs : List Nat}, i ∈ vs → wipe (σ.set i x) vs = wipe σ vs
  | v :: vs, h => by
    unfold wipe
    by_cases hi : i ∈ vs
    · rw [wipe_set hi]
    · have e : v = i := by rcases List.mem_cons.mp h with q | q; exact q.symm; exact absurd q hi
      subst e
      clear h
      have key : ∀ ws : List Nat, v ∉ ws → wipe (σ.set v x) ws = (wipe σ ws).set v x := by
        intro ws
        induction ws with
        | nil => intro _; rfl
        | cons w ws ih =>
          intro hw
          unfold wipe
          rw [ih fun z => hw (List.mem_cons_of_mem _ z), List.set_comm]
          exact fun z => hw (by rw [z]; exact List.mem_cons_self)
      rw [key vs hi, List.set_set]
section
variable {L : Lx} {pos : Pos} {ws : List Nat}
theorem gv_n {e : Expr} {i : Nat} (h : PG L.X e (gName i)) (hw : i ∈ ws) : PG L.X e (tGv L ws (gN i)) := pgI h fun v σ H Q q => by
  obtain ⟨Γ, R, p, hl, st, Γ', e1, q⟩ := q
  unfold gN at e1
  split at e1
  · rename_i hx
    cases e1
    exact q _ _ (by simpa using hl) (by simp) (St.setS hl (List.getElem?_eq_getElem hx) st) (wipe_set hw)
  · cases e1
theorem gvs_nil : PGs L.X [] (tGvs L ws gs0) := pgsI pgs_nil fun vs σ H Q q => by
  obtain ⟨Γ, R, ps, hl, hr, st, Γ', e1, q⟩ := q
  cases ps with
  | cons p ps => cases e1
  | nil =>
    cases e1
    exact ⟨hr, q σ H hl rfl st rfl⟩
theorem gvs_cons {e : Expr} {es : List Expr} {t : GSem} {u : List PV → Env → Option Env} (h1 : PG L.X e (tGv L ws t)) (h2 : PGs L.X es (tGvs L ws u))
    (hs : (assignEach (e :: es) L.X.env).map (·.2) = assign e L.X.env :: (assignEach es L.X.env).map (·.2)) : PGs L.X (e :: es) (tGvs L ws (gs1 t u)) := pgsI (pgs_cons h1 h2 hs) fun vs σ H Q q => by
  obtain ⟨Γ, R, ps, hl, hr, st, Γ', e1, q⟩ := q
  cases ps with
  | nil => cases e1
  | cons p ps =>
    obtain ⟨x, r, e2, r1, r2⟩ := hr
    have e1 : (t p Γ).bind (u ps) = some Γ' := e1
    cases e3 : t p Γ with
    | none => rw [e3] at e1; cases e1
    | some Γ1 =>
      rw [e3] at e1
      -- the rest's values wait in flight, as a tuple's items would
      refine ⟨x, r, e2, Γ, (ps.zip r).map (fun z => (some z.2, Slot.sh z.1)) ++ R, p, hl, ?_, Γ1, e3, fun σ1 H1 hl1 hσ1 st1 w1 => ?_⟩
      · refine St.push_val ?_ r1
        have all : ∀ (ps : List PV) (r : List V), RpA L.X.K L.X.mg H ps r → St L ((ps.zip r).map (fun z => (some z.2, Slot.sh z.1)) ++ (σ.zip Γ ++ R)) H := by
          intro ps
          induction ps with
          | nil => intro r _; exact st
          | cons p ps ih =>
            intro r hr
            obtain ⟨x, r', e, r1, r2⟩ := hr
            subst e
            exact (ih r' r2).push_val r1
        refine (all ps r r2).perm ?_
        rw [← List.append_assoc, ← List.append_assoc]
        exact (List.perm_append_comm).append_right R
      · have back : ∀ (ps : List PV) (r : List V), r.length = ps.length → (∀ z ∈ (ps.zip r).map (fun z => ((some z.2, Slot.sh z.1) : RS)), RelS L.X.K L.X.mg H1 z) → RpA L.X.K L.X.mg H1 ps r := by
          intro ps
          induction ps with
          | nil => intro r hr _; exact List.length_eq_zero_iff.mp hr
          | cons p ps ih =>
            intro r hr hz
            cases r with
            | nil => cases hr
            | cons y r =>
              obtain ⟨w, ew, qw⟩ := hz (some y, Slot.sh p) List.mem_cons_self
              cases ew
              exact ⟨y, r, rfl, qw, ih r (by simpa using hr) fun z hz' => hz z (List.mem_cons_of_mem _ hz')⟩
        refine ⟨Γ1, R, ps, hl1.trans hσ1.symm, back ps r (r2.len) (fun z hz => st1.rel z (List.mem_append_right _ (List.mem_append_left _ hz))), st1.sub (List.Sublist.append (List.Sublist.refl _) (List.sublist_append_right _ _)), Γ', e1, fun σ2 H2 a b d w2 => q σ2 H2 (a.trans hσ1) (b.trans hσ1) d (w2.trans w1)⟩
theorem gv_tup {es : List Expr} {k n : Nat} {t : List PV → Env → Option Env} (hc : L.X.calm = true) (h : PGs L.X es (tGvs L ws t)) (hn : (assignEach es L.X.env).length = n) (hst : (assignEach es L.X.env).findIdx? (·.1) = none)
    (ht : ∀ ps Γ Γ', t ps Γ = some Γ' → ps.length = n) : PG L.X (.Tuple es k pos) (tGv L ws (gT t)) := pgI (pg_tup hc h hn hst) fun v σ H Q q => by
  obtain ⟨Γ, R, p, hl, st, Γ', e1, q⟩ := q
  cases p with
  | tup ps =>
    have e1 : t ps Γ = some Γ' := e1
    obtain ⟨x, e2, a, xs, e3, hs, hr⟩ := st.rel _ List.mem_cons_self
    cases e2
    exact ⟨a, xs, e3, hs, by rw [hr.len]; exact ht ps Γ Γ' e1, Γ, R, ps, hl, hr, st.tail, Γ', e1, q⟩
  | _ => cases e1
end

/-! ### tests of a block -/
def tYesS : TSem := fun Γ => .ok true Γ
theorem ptsI {X : Cx} {e : List Expr} {t t' : TT} (h : PTs X e t) (i : ∀ σ H Q, t' σ H Q → t σ H Q) : PTs X e t' :=
  ⟨fun pins s σ H Q I q => h.run pins s σ H Q I (i σ H Q q)⟩
section
variable {L : Lx}
theorem ts_nil : PTs L.X [] (tT L tYesS) := ptsI pts_nil fun σ H Q q => by
  obtain ⟨Γ, T, hl, st, q⟩ := q
  exact q hl H st
theorem ts_one {c : Expr} {f : TSem} (h : PT L.X c (tT L f)) : PTs L.X [c] (tT L f) := pts_one h
/-- the block's parts, all at once -/
structure BlkP (L : Lx) (elt tg : Expr) (ifs : List Expr) (scope : Scope) (g : GSem) (t : TSem) (f : ESem) (vs : List Nat) : Prop where
  g : ∀ (s : Shared) (H : Hp) (C : Addr) (cl : List (Str × Addr)) (fp : List Addr), PG (L.blk s H scope (compEnvC scope cl C L.X.env) fp).X tg (tGv (L.blk s H scope (compEnvC scope cl C L.X.env) fp) vs g)
  t : ∀ (s : Shared) (H : Hp) (C : Addr) (cl : List (Str × Addr)) (fp : List Addr), PTs (L.blk s H scope (compEnvC scope cl C L.X.env) fp).X ifs (tT (L.blk s H scope (compEnvC scope cl C L.X.env) fp) t)
  e : ∀ (s : Shared) (H : Hp) (C : Addr) (cl : List (Str × Addr)) (fp : List Addr), PE (L.blk s H scope (compEnvC scope cl C L.X.env) fp).X elt (tE (L.blk s H scope (compEnvC scope cl C L.X.env) fp) f)
theorem wipeE_idem (Γ : Env) (vs : List Nat) : wipeE (wipeE Γ vs) vs = wipeE Γ vs := by
  apply List.ext_getElem?
  intro i
  by_cases h : i ∈ vs
  · have key : ∀ (Γ : Env) (vs : List Nat), i ∈ vs → (wipeE Γ vs)[i]? = if i < Γ.length then some .un else none := by
      intro Γ vs
      induction vs with
      | nil => intro h; cases h
      | cons v vs ih =>
        intro h
        unfold wipeE
        rw [List.getElem?_set, wipeE_len]
        by_cases hv : v = i
        · rw [if_pos hv]; subst hv; rfl
        · rw [if_neg hv]
          exact ih (by rcases List.mem_cons.mp h with q | q; exact absurd q.symm hv; exact q)
    rw [key _ _ h, key _ _ h, wipeE_len]
  · rw [wipeE_out h]
end

theorem tI_bind {α : Type} {L : Lx} {σ : L2.St} {Γ : Env} {T T1 : List RS} {H : Hp} {f : ISem} {k : List PV → Env → Rs α} {Kp : α → Env → Prop} {R : It → Hp → Prop} (hl : Γ.length = σ.length) (hs : T.Sublist T1) (st : St L (σ.zip Γ ++ T1) H)
    (h : Pst L σ T ((f Γ).bind k) Kp) (hR : ∀ ps Γ' J H' T', Γ'.length = σ.length → T1.Sublist T' → St L (σ.zip Γ' ++ T') H' → ItOk L.X.K L.X.mg T' J ps → Pst L σ T (k ps Γ') Kp → R J H') : tI L f σ H R := by
  refine ⟨Γ, T1, hl, st, ?_⟩
  cases e : f Γ with
  | ok d Γ' => rw [e] at h; exact fun hl' J H' T' a b c => hR d Γ' J H' T' hl' a b c h
  | ex x Γ' => rw [e] at h; exact Pst.mono (α := α) (r := Rs.ex x Γ') (k := Kp) hs h
  | no => rw [e] at h; exact h
theorem RpA.snoc {K : PySem.W.Frag} {mg : Str → Option Value} {H : Hp} {p : PV} {v : V} (h2 : Rp K mg H p v) : ∀ {ps : List PV} {xs : List V}, RpA K mg H ps xs → RpA K mg H (ps ++ [p]) (xs ++ [v])
  | [], xs, h => by rw [show xs = [] from h]; exact ⟨v, [], rfl, h2, rfl⟩
  | q :: ps, xs, h => by
    obtain ⟨x, r, e, a, b⟩ := h
    subst e
    exact ⟨x, r ++ [v], rfl, a, RpA.snoc h2 b⟩
section
variable {L : Lx} {pos : Pos}
theorem lc_go {it : ISem} {g : GSem} {t : TSem} {f : ESem} {vs : List Nat} (nd : vs.Nodup) {σ : L2.St} {H : Hp} {Q : VK} (q : tE L (lcE it g t f vs) σ H Q) : tLc (tI L it) (tGv L.bk vs g) (tT L.bk t) (tE L.bk (eZ f)) vs σ H Q := by
  obtain ⟨Γ, T, hl, st, q⟩ := q
  refine tI_bind hl (List.Sublist.refl T) st q fun ps Γ1 J H1 T' hl1 hT st1 ok1 h1 => ?_
  intro D hD
  have w0 := st1.wipeS hl1 nd
  have w1 : St L ((some (.ref D), .ow (.lst [])) :: ((wipe σ vs).zip (wipeE Γ1 vs) ++ (svd σ Γ1 vs ++ T'))) (upd H1 D (.lst [])) := w0.push_own hD ⟨[], upd_same, rfl⟩
  let R : List PV → List RS := fun acc => (some (V.ref D), Slot.ow (.lst acc)) :: (svd σ Γ1 vs ++ T')
  refine ⟨fun i m H' => m = ps.length - i ∧ i ≤ ps.length ∧ ∃ Γ' acc, Γ'.length = σ.length ∧ St L ((wipe σ vs).zip Γ' ++ R acc) H' ∧
      Pst L σ T ((lcL g t f vs (ps.drop i) acc Γ').bind fun qs Γ2 => Rs.ok (Opd.tmp (OV.lst qs)) (rest Γ1 vs Γ2)) (fun d Γ' => ∀ v H', OpP L σ Γ' T d v H' → Q v H'),
    ⟨ps.length, by simp, Nat.zero_le _, wipeE Γ1 vs, [], by rw [wipeE_len]; exact hl1, w1.perm List.perm_middle.symm, h1⟩, ?_⟩
  rintro i m H2 ⟨rfl, hi, Γ2, acc, hl2, st2, h2⟩
  have hT2 : ∀ r ∈ T', RelS L.X.K L.X.mg H2 r := fun r hr => st2.rel r (List.mem_append_right _ (List.mem_cons_of_mem _ (List.mem_append_right _ hr)))
  by_cases hlt : i < ps.length
  · have hd : ps.drop i = ps[i] :: ps.drop (i + 1) := List.drop_eq_getElem_cons hlt
    obtain ⟨go, yl⟩ := ok1.go H2 hT2 i _ (List.getElem?_eq_getElem hlt)
    rw [hd] at h2
    unfold lcL at h2
    refine .inr ⟨go, fun H' => i + 1 ≤ ps.length ∧ ∃ Γ' acc, Γ'.length = σ.length ∧ St L ((wipe σ vs).zip Γ' ++ R acc) H' ∧
      Pst L σ T ((lcL g t f vs (ps.drop (i + 1)) acc Γ').bind fun qs Γ2 => Rs.ok (Opd.tmp (OV.lst qs)) (rest Γ1 vs Γ2)) (fun d Γ' => ∀ v H', OpP L σ Γ' T d v H' → Q v H'),
      fun H' ⟨z1, z2⟩ => ⟨ps.length - (i + 1), by omega, rfl, z1, z2⟩, fun x H3 hy => ?_⟩
    obtain ⟨hH, rx⟩ := yl x H3 hy
    have st3 : St L ((wipe σ vs).zip Γ2 ++ R acc) H3 := by
      rcases hH with rfl | ⟨a, o, e, rfl⟩
      · exact st2
      · exact st2.fresh e
    have st3 : St L ((wipe σ vs).zip (wipeE Γ2 vs) ++ R acc) H3 := by
      have z := st3.wipeS (by rw [wipe_length]; exact hl2) nd
      rw [wipe_twice σ vs vs fun i hi => hi] at z
      exact z.sub (List.Sublist.append (List.Sublist.refl _) (List.sublist_append_right _ _))
    cases et : g ps[i] (wipeE Γ2 vs) with
    | none => rw [et] at h2; exact h2.elim
    | some Γ3 =>
      rw [et] at h2
      refine ⟨wipeE Γ2 vs, R acc, ps[i], by rw [wipeE_len, wipe_length]; exact hl2, st3.push_val rx, Γ3, et, fun σ4 H4 hl4 hσ4 st4 w4 => ?_⟩
      have hn : σ4.length = σ.length := by rw [hσ4, wipe_length]
      have hl3 : Γ3.length = σ.length := by rw [hl4, wipe_length]
      have w4 : wipe σ4 vs = wipe σ vs := w4.trans (wipe_twice σ vs vs fun i hi => hi)
      refine ⟨w4, Γ3, R acc, hl3.trans hn.symm, st4, ?_⟩
      simp only at h2
      cases eb : t Γ3 with
      | no => rw [eb] at h2; exact h2
      | ex x Γ5 => rw [eb] at h2; exact h2.elim
      | ok b Γ5 =>
        rw [eb] at h2
        intro hl5 H5 st5
        cases b with
        | false =>
          rw [if_neg (by simp)]
          have z := st5.wipeS hl5 nd
          rw [w4] at z
          exact ⟨hlt, wipeE Γ5 vs, acc, by rw [wipeE_len]; exact hl5.trans hn, z.sub (List.Sublist.append (List.Sublist.refl _) (List.sublist_append_right _ _)), h2⟩
        | true =>
          rw [if_pos rfl]
          refine ⟨Γ5, R acc, hl5, st5, ?_⟩
          simp only at h2
          cases ef : eZ f Γ5 with
          | no => rw [ef] at h2; exact h2
          | ex x Γ6 => rw [ef] at h2; exact h2.elim
          | ok d Γ6 =>
            rw [ef] at h2
            cases d with
            | tmp o => exact h2.elim
            | plc j => exact h2.elim
            | val q =>
              simp only at h2
              split at h2
              · rename_i hlen
                intro hl6 v H6 o6
                have st6 : St L (σ4.zip Γ6 ++ ((some v, .sh q) :: R acc)) H6 := o6.st
                obtain ⟨v', ev, rv⟩ := st6.rel (some v, .sh q) (List.mem_append_right _ List.mem_cons_self)
                cases ev
                obtain ⟨a, ea, xs, hxs, rxs⟩ := st6.rel (some (.ref D), .ow (.lst acc)) (List.mem_append_right _ (List.mem_cons_of_mem _ List.mem_cons_self))
                cases ea
                refine ⟨xs, hxs, by rw [rxs.len]; exact hlen, hlt, wipeE Γ6 vs, acc ++ [q], by rw [wipeE_len]; exact hl6.trans hn, ?_, h2⟩
                have s7 : St L ((some (.ref D), .ow (.lst acc)) :: (σ4.zip Γ6 ++ (svd σ Γ1 vs ++ T'))) H6 := (st6.sub (List.Sublist.append (List.Sublist.refl _) (List.sublist_cons_self _ _))).perm List.perm_middle
                have s8 := s7.write D (.lst acc) (.lst (acc ++ [q])) (.lst (xs ++ [v])) ⟨xs ++ [v], upd_same, RpA.le (Le.write hxs trivial) _ _ (rxs.snoc rv)⟩
                have s9 : St L (σ4.zip Γ6 ++ R (acc ++ [q])) (upd H6 D (.lst (xs ++ [v]))) := s8.perm List.perm_middle.symm
                have z := s9.wipeS hl6 nd
                rw [w4] at z
                exact z.sub (List.Sublist.append (List.Sublist.refl _) (List.sublist_append_right _ _))
              · exact h2.elim
  · have hi' : i = ps.length := by omega
    subst hi'
    rw [List.drop_length] at h2
    refine .inl ⟨ok1.stop H2 hT2, ?_⟩
    have s3 : St L ((wipe σ vs).zip Γ2 ++ (svd σ Γ1 vs ++ ((some (V.ref D), Slot.ow (.lst acc)) :: T'))) H2 := st2.perm (List.Perm.append_left _ List.perm_middle.symm)
    have s4 := s3.restS hl1 nd hl2
    exact h2 (by rw [rest_len]; exact hl2) _ _ ⟨s4.sub (List.Sublist.append (List.Sublist.refl _) (hT.cons_cons _)), fun j z => nomatch z⟩
theorem e_lc {elt tg iter : Expr} {ifs : List Expr} {scope : Scope} {own : List (Str × Nat)} {vs : List Nat} {it : ISem} {g : GSem} {t : TSem} {f : ESem} (hc : L.X.calm = true) (hN : L.X.N.Nodup) (hi : PI L.X tg iter (tI L it)) (ok : BlkOk L.X.N L.X.env.scope scope own) (hv : own.map (·.2) = vs) (nd : vs.Nodup)
    (hb : BlkP L elt tg ifs scope g t f vs) (hs : ∀ x, foldedSetIterable iter L.X.env x = pure x := by intro _; rfl) :
    PE L.X (.ListComp elt [⟨tg, iter, ifs, 0⟩] scope pos) (tE L (lcE it g t f vs)) := by
  subst hv
  exact peI (pe_lc (g := tGv L.bk (own.map fun p : Str × Nat => p.2) g) (tt := tT L.bk t) (te := tE L.bk (eZ f)) hc hN hi ok hb.g hb.t (fun s H C cl fp => e_z (L := L.blk s H scope (compEnvC scope cl C L.X.env) fp) (hb.e s H C cl fp)) hs) fun σ H Q q => lc_go nd q
/-- name = [..] on one line -/
theorem s_lc {i : Nat} {y : Str} {py spos : Pos} {elt tg iter : Expr} {ifs : List Expr} {scope : Scope} {own : List (Str × Nat)} {vs : List Nat} {it : ISem} {g : GSem} {t : TSem} {f : ESem} (hc : L.X.calm = true) (hN : L.X.N.Nodup) (hy : L.X.N[i]? = some y) (hyl : L.X.env.scope.names.lookup y = some .local)
    (hsw : swapsWith (.ListComp elt [⟨tg, iter, ifs, 0⟩] scope pos) (some (.Name y py)) spos.line L.X.env = pure true) (hi : PI L.X tg iter (tI L it)) (ok : BlkOk L.X.N L.X.env.scope scope own) (hv : own.map (·.2) = vs) (nd : vs.Nodup)
    (hb : BlkP L elt tg ifs scope g t f vs) (hs : ∀ x, foldedSetIterable iter L.X.env x = pure x := by intro _; rfl) :
    PS L.X (.Assign [.Name y py] (.ListComp elt [⟨tg, iter, ifs, 0⟩] scope pos) spos) (tAsg (tE L (lcE it g t f vs)) (gName i)) := by
  subst hv
  exact psI (ps_setLc (g := tGv L.bk (own.map fun p : Str × Nat => p.2) g) (tt := tT L.bk t) (te := tE L.bk (eZ f)) hc hN hy hyl hsw hi ok hb.g hb.t (fun s H C cl fp => e_z (L := L.blk s H scope (compEnvC scope cl C L.X.env) fp) (hb.e s H C cl fp)) hs) fun D σ H q => lc_go nd q
end
end Mv
end S12_

section S13_
set_option Elab.async false
set_option linter.all false
set_option maxRecDepth 100000
namespace Mv
open PySem PySem.Spec PyProof.Rows L2

/-! ### a, b = x, y -/
def mvs : List Opd → Env → Option (List Slot × Env)
  | [], Γ => some ([], Γ)
  | .val p :: ds, Γ => (mvs ds Γ).map fun z => (.sh p :: z.1, z.2)
  | .tmp o :: ds, Γ => (mvs ds Γ).map fun z => (.ow o :: z.1, z.2)
  | .plc j :: ds, Γ =>
    match Γ[j]? with
    | some (.ow o) => (mvs ds (Γ.set j .un)).map fun z => (.ow o :: z.1, z.2)
    | some (.sh p) => (mvs ds Γ).map fun z => (.sh p :: z.1, z.2)
    | _ => none
def parS (is : List Nat) (f : ASem) : SSem := fun Γ => (f Γ).fl fun ds Γ' =>
  match mvs ds Γ' with
  | some (sls, Γ2) => .nx ((is.zip sls).foldl (fun Γ p => Γ.set p.1 p.2) Γ2)
  | none => .no
section
variable {L : Lx} {σ : L2.St} {H : Hp}
theorem pshs_perm : ∀ (ds : List Opd) (vs : List V) {T T' : List RS}, T.Perm T' → (pshs ds vs T).Perm (pshs ds vs T')
  | [], vs, T, T', h => by cases vs <;> exact h
  | d :: ds, [], T, T', h => h
  | d :: ds, v :: vs, T, T', h => pshs_perm ds vs (by cases d <;> first | exact h.cons _ | exact h)
theorem pshs_cons : ∀ (ds : List Opd) (vs : List V) (r : RS) (T : List RS), (pshs ds vs (r :: T)).Perm (r :: pshs ds vs T)
  | [], vs, r, T => by cases vs <;> exact List.Perm.refl _
  | d :: ds, [], r, T => List.Perm.refl _
  | d :: ds, v :: vs, r, T => by
    refine List.Perm.trans ?_ (pshs_cons ds vs r (psh d v T))
    refine pshs_perm ds vs ?_
    cases d with
    | val p => exact List.Perm.swap _ _ _
    | tmp o => exact List.Perm.swap _ _ _
    | plc j => exact List.Perm.refl _
theorem mvs_len : ∀ {ds : List Opd} {Γ Γ' : Env} {sls : List Slot}, mvs ds Γ = some (sls, Γ') → sls.length = ds.length ∧ Γ'.length = Γ.length
  | [], Γ, Γ', sls, h => by cases h; exact ⟨rfl, rfl⟩
  | .val p :: ds, Γ, Γ', sls, h => by
    have h : (mvs ds Γ).map _ = _ := h
    obtain ⟨z, e1, e2⟩ := Option.map_eq_some_iff.mp h
    cases e2
    obtain ⟨a, b⟩ := mvs_len (ds := ds) (sls := z.1) (Γ' := z.2) e1
    exact ⟨by rw [List.length_cons, List.length_cons, a], b⟩
  | .tmp p :: ds, Γ, Γ', sls, h => by
    have h : (mvs ds Γ).map _ = _ := h
    obtain ⟨z, e1, e2⟩ := Option.map_eq_some_iff.mp h
    cases e2
    obtain ⟨a, b⟩ := mvs_len (ds := ds) (sls := z.1) (Γ' := z.2) e1
    exact ⟨by rw [List.length_cons, List.length_cons, a], b⟩
  | .plc j :: ds, Γ, Γ', sls, h => by
    unfold mvs at h
    cases ej : Γ[j]? with
    | none => rw [ej] at h; cases h
    | some sl =>
      rw [ej] at h
      cases sl with
      | un => cases h
      | sh p =>
        obtain ⟨z, e1, e2⟩ := Option.map_eq_some_iff.mp h
        cases e2
        obtain ⟨a, b⟩ := mvs_len (ds := ds) (sls := z.1) (Γ' := z.2) e1
        exact ⟨by rw [List.length_cons, List.length_cons, a], b⟩
      | ow o =>
        obtain ⟨z, e1, e2⟩ := Option.map_eq_some_iff.mp h
        cases e2
        obtain ⟨a, b⟩ := mvs_len (ds := ds) (sls := z.1) (Γ' := z.2) e1
        exact ⟨by rw [List.length_cons, List.length_cons, a], b.trans (List.length_set ..)⟩
theorem St.takesS : ∀ {ds : List Opd} {vs : List V} {Γ Γ' : Env} {sls : List Slot} {T : List RS}, mvs ds Γ = some (sls, Γ') → vs.length = ds.length → (∀ (i : Nat) v k, ds[i]? = some (.plc k) → vs[i]? = some v → σ[k]? = some (some v)) → St L (σ.zip Γ ++ pshs ds vs T) H →
    St L ((vs.map some).zip sls ++ (σ.zip Γ' ++ T)) H
  | [], vs, Γ, Γ', sls, T, h, hl, hk, st => by
    cases h
    cases vs with
    | nil => exact st
    | cons _ _ => cases hl
  | d :: ds, [], Γ, Γ', sls, T, h, hl, hk, st => by cases hl
  | d :: ds, v :: vs, Γ, Γ', sls, T, h, hl, hk, st => by
    have hl' : vs.length = ds.length := by simpa using hl
    have hk' : ∀ (i : Nat) w k, ds[i]? = some (.plc k) → vs[i]? = some w → σ[k]? = some (some w) := fun i w k a b => hk (i + 1) w k (by simpa using a) (by simpa using b)
    have fin : ∀ (sl : Slot) (z : List Slot × Env), sls = sl :: z.1 → Γ' = z.2 → St L ((vs.map some).zip z.1 ++ (σ.zip z.2 ++ ((some v, sl) :: T))) H → St L (((v :: vs).map some).zip sls ++ (σ.zip Γ' ++ T)) H := by
      intro sl z e1 e2 s1
      subst e1 e2
      show St L ((some v, sl) :: ((vs.map some).zip z.1 ++ (σ.zip z.2 ++ T))) H
      refine s1.perm ?_
      rw [← List.append_assoc, ← List.append_assoc]
      exact List.perm_middle
    cases d with
    | val p =>
      obtain ⟨z, e1, e2⟩ := Option.map_eq_some_iff.mp (show (mvs ds Γ).map _ = _ from h)
      cases e2
      exact fin (.sh p) z rfl rfl (St.takesS (ds := ds) (T := (some v, .sh p) :: T) e1 hl' hk' st)
    | tmp o =>
      obtain ⟨z, e1, e2⟩ := Option.map_eq_some_iff.mp (show (mvs ds Γ).map _ = _ from h)
      cases e2
      exact fin (.ow o) z rfl rfl (St.takesS (ds := ds) (T := (some v, .ow o) :: T) e1 hl' hk' st)
    | plc j =>
      have hv := hk 0 v j rfl rfl
      unfold mvs at h
      cases ej : Γ[j]? with
      | none => rw [ej] at h; cases h
      | some sl =>
        rw [ej] at h
        have st : St L (σ.zip Γ ++ pshs ds vs T) H := st
        cases sl with
        | un => cases h
        | sh p =>
          obtain ⟨z, e1, e2⟩ := Option.map_eq_some_iff.mp h
          cases e2
          refine fin (.sh p) z rfl rfl (St.takesS (ds := ds) (T := (some v, .sh p) :: T) e1 hl' hk' ?_)
          have s1 := st.push_val (st.valS hv ej)
          refine s1.perm ?_
          refine List.Perm.trans ?_ (List.Perm.append_left _ (pshs_cons ds vs _ T).symm)
          exact List.perm_middle.symm
        | ow o =>
          obtain ⟨z, e1, e2⟩ := Option.map_eq_some_iff.mp h
          cases e2
          refine fin (.ow o) z rfl rfl (St.takesS (ds := ds) (T := (some v, .ow o) :: T) e1 hl' hk' ?_)
          have s1 := st.takeS hv ej
          refine s1.perm ?_
          refine List.Perm.trans ?_ (List.Perm.append_left _ (pshs_cons ds vs _ T).symm)
          exact List.perm_middle.symm
theorem ArgP.plc {Γ : Env} {T : List RS} {ds : List Opd} {vs : List V} (o : ArgP L σ Γ T ds vs H) : ∀ (i : Nat) v k, ds[i]? = some (.plc k) → vs[i]? = some v → σ[k]? = some (some v) := fun i v k e1 e2 => o.has i _ v e1 e2
theorem tA_fl {T T1 : List RS} {Γ : Env} {D : Ends} {f : ASem} {k : List Opd → Env → Fl} {R : List V → Hp → Prop} (hl : Γ.length = σ.length) (hp : Pin L σ) (hs : T.Sublist T1) (st : St L (σ.zip Γ ++ T1) H) (h : PstS L σ.length T ((f Γ).fl k) D)
    (hR : ∀ d Γ' v H', Γ'.length = σ.length → ArgP L σ Γ' T1 d v H' → PstS L σ.length T (k d Γ') D → R v H') : tA L f σ H R := by
  refine ⟨Γ, T1, hl, st, ?_⟩
  cases e : f Γ with
  | ok d Γ' => rw [e] at h; exact fun hl' v H' o => hR d Γ' v H' hl' o h
  | ex x Γ' => rw [e] at h; exact fun C d H' hl' s' xp => h C d σ H' hl' rfl hp (s'.sub (List.Sublist.append (List.Sublist.refl _) hs)) xp
  | no => rw [e] at h; exact h
theorem St.setL : ∀ {is : List Nat} {vs : List V} {sls : List Slot} {σ : L2.St} {Γ : Env} {R : List RS}, is.length = vs.length → sls.length = vs.length → Γ.length = σ.length → (∀ i ∈ is, i < Γ.length) → St L ((vs.map some).zip sls ++ (σ.zip Γ ++ R)) H →
    St L (((is.zip vs).foldl (fun σ p => σ.set p.1 (some p.2)) σ).zip ((is.zip sls).foldl (fun Γ p => Γ.set p.1 p.2) Γ) ++ R) H
  | [], [], [], σ, Γ, R, _, _, _, _, st => st
  | i :: is, v :: vs, sl :: sls, σ, Γ, R, h1, h2, hl, hi, st => by
    have st : St L ((some v, sl) :: ((vs.map some).zip sls ++ (σ.zip Γ ++ R))) H := st
    have hx := hi i List.mem_cons_self
    have s1 : St L ((some v, sl) :: (σ.zip Γ ++ ((vs.map some).zip sls ++ R))) H := st.perm (by
      refine List.Perm.cons _ ?_
      rw [← List.append_assoc, ← List.append_assoc]
      exact List.perm_append_comm.append_right R)
    have s2 := St.setS hl (List.getElem?_eq_getElem hx) s1
    refine St.setL (is := is) (vs := vs) (sls := sls) (σ := σ.set i (some v)) (Γ := Γ.set i sl) (by simpa using h1) (by simpa using h2) (by simpa using hl) (fun j hj => by rw [List.length_set]; exact hi j (List.mem_cons_of_mem _ hj)) ?_
    refine s2.perm ?_
    rw [← List.append_assoc, ← List.append_assoc]
    exact List.perm_append_comm.append_right R
  | [], _ :: _, _, _, _, _, h, _, _, _, _ => by cases h
  | _ :: _, [], _, _, _, _, h, _, _, _, _ => by cases h
  | _, [], _ :: _, _, _, _, _, h, _, _, _ => by cases h
  | _, _ :: _, [], _, _, _, _, h, _, _, _ => by cases h
theorem par_go {is : List Nat} {f : ASem} {D : Ends} (hi : ∀ i ∈ is, i ∉ L.M.map (·.1) ∧ i < σ.length) (q : tS L (parS is f) D σ H) :
    tA L f σ H fun vs H1 => is.length = vs.length → D.nx ((is.zip vs).foldl (fun σ p => σ.set p.1 (some p.2)) σ) H1 := by
  obtain ⟨Γ, T, hl, hp, st, q⟩ := q
  refine tA_fl hl hp (List.Sublist.refl T) st q fun ds Γ1 vs H1 hl1 o1 h1 => ?_
  intro hlen
  cases em : mvs ds Γ1 with
  | none => rw [em] at h1; exact h1.elim
  | some z =>
    obtain ⟨sls, Γ2⟩ := z
    rw [em] at h1
    obtain ⟨l1, l2⟩ := mvs_len em
    have s1 := St.takesS (σ := σ) em o1.len o1.plc o1.st
    have s2 := St.setL (is := is) hlen (by rw [l1, o1.len]) (l2.trans hl1) (fun i hi' => by rw [l2, hl1]; exact (hi i hi').2) s1
    have hΓ : ∀ (ps : List (Nat × Slot)) (Γ : Env), (ps.foldl (fun Γ p => Γ.set p.1 p.2) Γ).length = Γ.length := by
      intro ps
      induction ps with
      | nil => intro Γ; rfl
      | cons p ps ih => intro Γ; rw [List.foldl_cons, ih, List.length_set]
    have hσ : ∀ (ps : List (Nat × V)) (σ : L2.St), (ps.foldl (fun σ p => σ.set p.1 (some p.2)) σ).length = σ.length := by
      intro ps
      induction ps with
      | nil => intro Γ; rfl
      | cons p ps ih => intro Γ; rw [List.foldl_cons, ih, List.length_set]
    have hP : ∀ (ps : List (Nat × V)) (σ : L2.St), (∀ p ∈ ps, p.1 ∉ L.M.map (·.1)) → Pin L σ → Pin L (ps.foldl (fun σ p => σ.set p.1 (some p.2)) σ) := by
      intro ps
      induction ps with
      | nil => intro σ _ h; exact h
      | cons p ps ih => intro σ hn h; exact ih _ (fun q hq => hn q (List.mem_cons_of_mem _ hq)) (h.set (hn p List.mem_cons_self))
    refine h1 _ _ ?_ ?_ ?_ s2
    · show ((is.zip sls).foldl (fun Γ p => Γ.set p.1 p.2) Γ2).length = _
      rw [hΓ, l2, hl1]
    · rw [hσ]
    · exact hP _ _ (fun p hp' => (hi p.1 (List.of_mem_zip hp').1).1) hp
theorem s_par {i j : Nat} {st : Stmt} {f : ASem} (hs : PS L.X st (tPar i j (tA L f))) (hf : ∀ Γ ds Γ', f Γ = .ok ds Γ' → ds.length = 2) (hi : i ∉ L.M.map (·.1)) (hj : j ∉ L.M.map (·.1)) (hx : i < L.X.N.length) (hy : j < L.X.N.length) : PS L.X st (tS L (parS [i, j] f)) := by
  refine ⟨fun pins s σ H D I q => hs.run pins s σ H D I ?_⟩
  have e : σ.length = L.X.N.length := I.len
  obtain ⟨Γ, T, a, b, h⟩ := par_go (σ := σ) (H := H) (D := D) (is := [i, j]) (f := f) (by simp; exact ⟨⟨by simpa using hi, by omega⟩, ⟨by simpa using hj, by omega⟩⟩) q
  refine ⟨Γ, T, a, b, ?_⟩
  cases ef : f Γ with
  | ok ds Γ' =>
    rw [ef] at h
    intro hl vs H' o
    have h2 := h hl vs H' o
    have hd := hf _ _ _ ef
    have hv : vs.length = 2 := o.len.trans hd
    match vs, hv with
    | [v, w], _ => exact ⟨v, w, rfl, h2 rfl⟩
  | ex x Γ' => rw [ef] at h; exact h
  | no => rw [ef] at h; exact h
theorem s_par3 {i j k : Nat} {st : Stmt} {f : ASem} (hs : PS L.X st (tPar3 i j k (tA L f))) (hf : ∀ Γ ds Γ', f Γ = .ok ds Γ' → ds.length = 3) (hi : i ∉ L.M.map (·.1)) (hj : j ∉ L.M.map (·.1)) (hk : k ∉ L.M.map (·.1)) (hx : i < L.X.N.length) (hy : j < L.X.N.length) (hz : k < L.X.N.length) : PS L.X st (tS L (parS [i, j, k] f)) := by
  refine ⟨fun pins s σ H D I q => hs.run pins s σ H D I ?_⟩
  have e : σ.length = L.X.N.length := I.len
  obtain ⟨Γ, T, a, b, h⟩ := par_go (σ := σ) (H := H) (D := D) (is := [i, j, k]) (f := f) (by simp; exact ⟨⟨by simpa using hi, by omega⟩, ⟨by simpa using hj, by omega⟩, ⟨by simpa using hk, by omega⟩⟩) q
  refine ⟨Γ, T, a, b, ?_⟩
  cases ef : f Γ with
  | ok ds Γ' =>
    rw [ef] at h
    intro hl vs H' o
    have h2 := h hl vs H' o
    have hd := hf _ _ _ ef
    have hv : vs.length = 3 := o.len.trans hd
    match vs, hv with
    | [v, w, u], _ => exact ⟨v, w, u, rfl, h2 rfl⟩
  | ex x Γ' => rw [ef] at h; exact h
  | no => rw [ef] at h; exact h
theorem aS_len : ∀ (fs : List ESem) (Γ : Env) (ds : List Opd) (Γ' : Env), aS fs Γ = .ok ds Γ' → ds.length = fs.length
  | [], Γ, ds, Γ', h => by cases h; rfl
  | f :: fs, Γ, ds, Γ', h => by
    have h : (f Γ).bind (fun d Γ1 => (aS fs Γ1).bind fun ds Γ2 => .ok (d :: ds) Γ2) = .ok ds Γ' := h
    cases e1 : f Γ with
    | no => rw [e1] at h; cases h
    | ex x Γ1 => rw [e1] at h; cases h
    | ok d Γ1 =>
      rw [e1] at h
      have h : (aS fs Γ1).bind (fun ds Γ2 => Rs.ok (d :: ds) Γ2) = .ok ds Γ' := h
      cases e2 : aS fs Γ1 with
      | no => rw [e2] at h; cases h
      | ex x Γ1 => rw [e2] at h; cases h
      | ok d2 Γ2 =>
        rw [e2] at h
        cases h
        rw [List.length_cons, List.length_cons, aS_len fs Γ1 d2 _ e2]
end
end Mv
end S13_

section S14_
set_option Elab.async false
set_option linter.all false
set_option maxRecDepth 100000
namespace Mv
open PySem PySem.Spec PyProof.Rows L2

/-! ### values as data -/
mutual
def pd : PV → Option PyData
  | .non => some .none
  | .bl b => some (.bool b)
  | .int i => some (.int i)
  | .str x => some (.str x)
  | .tup ps => (pds ps).map .tuple
  | .lst ps => (pds ps).map .list
  | _ => none
def pds : List PV → Option (List PyData)
  | [] => some []
  | p :: ps =>
    match pd p, pds ps with
    | some d, some ds => some (d :: ds)
    | _, _ => none
end
section
variable {K : PySem.W.Frag} {mg : Str → Option Value} {H : Hp}
mutual
theorem Rp.dp : ∀ (p : PV) (d : PyData) (v : V), pd p = some d → Rp K mg H p v → Dp K H v d
  | .non, d, v, e, h => by
    unfold pd at e; cases e
    rw [show v = V.non from h]; exact .non
  | .bl b, d, v, e, h => by
    unfold pd at e; cases e
    rw [show v = V.bl b from h]; exact .bl b
  | .int b, d, v, e, h => by
    unfold pd at e; cases e
    rw [show v = V.int b from h]; exact .int b
  | .str b, d, v, e, h => by
    unfold pd at e; cases e
    rw [show v = V.str b from h]; exact .str b
  | .tup ps, d, v, e, h => by
    unfold pd at e
    obtain ⟨ds, e1, e2⟩ := Option.map_eq_some_iff.mp e
    subst e2
    obtain ⟨a, xs, ev, hq, hr⟩ := h
    subst ev
    exact .tup hq (RpA.dp ps ds xs e1 hr)
  | .lst ps, d, v, e, h => by
    unfold pd at e
    obtain ⟨ds, e1, e2⟩ := Option.map_eq_some_iff.mp e
    subst e2
    obtain ⟨a, xs, ev, hq, hr⟩ := h
    subst ev
    exact .lst hq.sq (RpA.dp ps ds xs e1 hr)
  | .dK _ _, d, v, e, h => by unfold pd at e; cases e
  | .dT _ _, d, v, e, h => by unfold pd at e; cases e
  | .ins _ _ _, d, v, e, h => by unfold pd at e; cases e
theorem RpA.dp : ∀ (ps : List PV) (ds : List PyData) (xs : List V), pds ps = some ds → RpA K mg H ps xs → DpAll K H xs ds
  | [], ds, xs, e, h => by
    unfold pds at e; cases e
    rw [show xs = [] from h]; exact .nil
  | p :: ps, ds, xs, e, h => by
    unfold pds at e
    obtain ⟨x, r, ex, h1, h2⟩ := h
    subst ex
    cases e1 : pd p with
    | none => rw [e1] at e; cases e
    | some d =>
      cases e2 : pds ps with
      | none => rw [e1, e2] at e; cases e
      | some l =>
        rw [e1, e2] at e
        cases e
        exact .cons (Rp.dp p d x e1 h1) (RpA.dp ps l r e2 h2)
end
theorem RpV.dp {p : PV} {d : PyData} {v : V} (e : pd p = some d) (h : RpV K mg H p v) : Dp K H v d := by
  rcases h with h | ⟨a, o, rfl, rfl, h⟩
  · exact Rp.dp p d v e h
  · cases o with
    | lst ps =>
      have e : pd (.lst ps) = some d := e
      unfold pd at e
      obtain ⟨ds, e1, e2⟩ := Option.map_eq_some_iff.mp e
      subst e2
      obtain ⟨xs, h1, h2⟩ := h
      exact .lst (.of h1) (RpA.dp ps ds xs e1 h2)
    | dK _ _ => have e : pd (.dK _ _) = some d := e; unfold pd at e; cases e
    | dT _ _ => have e : pd (.dT _ _) = some d := e; unfold pd at e; cases e
    | ins _ _ _ => have e : pd (.ins _ _ _) = some d := e; unfold pd at e; cases e
end

/-! ### == and != on data -/
def eqP (p q : PV) : Option Bool :=
  match pd p, pd q with
  | some d, some e => if SeqAt.shaped d && SeqAt.shaped e then some (PyData.eqv d e) else none
  | _, _ => none
def oEq (p q : PV) : Option Rv := (eqP p q).map fun b => .val (.bl b)
def oNe (p q : PV) : Option Rv := (eqP p q).map fun b => .val (.bl (!b))
theorem eqP_some {p q : PV} {b : Bool} (h : eqP p q = some b) : ∃ d e, pd p = some d ∧ pd q = some e ∧ SeqAt.shaped d = true ∧ SeqAt.shaped e = true ∧ b = PyData.eqv d e := by
  unfold eqP at h
  cases e1 : pd p with
  | none => rw [e1] at h; cases h
  | some d =>
    cases e2 : pd q with
    | none => rw [e1, e2] at h; cases h
    | some e =>
      rw [e1, e2] at h
      simp only at h
      split at h
      · rename_i hs
        rw [Bool.and_eq_true] at hs
        cases h
        exact ⟨d, e, rfl, rfl, hs.1, hs.2, rfl⟩
      · cases h
section
variable {L : Lx}
theorem oEq_s : Op2S L oEq (rEqD L.X.K) := fun rs p q z x y H Q st hx hy e hQ => by
  obtain ⟨b, e1, e2⟩ := Option.map_eq_some_iff.mp (show (eqP p q).map _ = some z from e)
  subst e2
  obtain ⟨d, f, h1, h2, h3, h4, rfl⟩ := eqP_some e1
  exact ⟨d, f, RpV.dp h1 hx, RpV.dp h2 hy, h3, h4, hQ _ H (st.push_val rfl)⟩
theorem oNe_s : Op2S L oNe (rNeD L.X.K) := fun rs p q z x y H Q st hx hy e hQ => by
  obtain ⟨b, e1, e2⟩ := Option.map_eq_some_iff.mp (show (eqP p q).map _ = some z from e)
  subst e2
  obtain ⟨d, f, h1, h2, h3, h4, rfl⟩ := eqP_some e1
  exact ⟨d, f, RpV.dp h1 hx, RpV.dp h2 hy, h3, h4, hQ _ H (st.push_val rfl)⟩

/-! ### is None -/
def isNonP : PV → Bool
  | .non => true
  | _ => false
def oIsN (p q : PV) : Option Rv :=
  match q with
  | .non => some (.val (.bl (isNonP p)))
  | _ => none
def oNotN (p q : PV) : Option Rv :=
  match q with
  | .non => some (.val (.bl (!isNonP p)))
  | _ => none
theorem rv_isN {K : PySem.W.Frag} {mg : Str → Option Value} {H : Hp} {p : PV} {x : V} (h : RpV K mg H p x) : decide (x = .non) = isNonP p := by
  have nr : ∀ a, decide (V.ref a = V.non) = false := fun a => decide_eq_false (fun z => nomatch z)
  rcases h with h | ⟨a, o, rfl, rfl, h⟩
  · cases p with
    | non => obtain rfl : x = V.non := h; exact decide_eq_true rfl
    | bl b => obtain rfl : x = V.bl b := h; exact decide_eq_false (fun z => nomatch z)
    | int b => obtain rfl : x = V.int b := h; exact decide_eq_false (fun z => nomatch z)
    | str b => obtain rfl : x = V.str b := h; exact decide_eq_false (fun z => nomatch z)
    | tup ps => obtain ⟨a, xs, rfl, _⟩ := h; exact nr a
    | lst ps => obtain ⟨a, xs, rfl, _⟩ := h; exact nr a
    | dK ks ps => obtain ⟨a, xs, o, rfl, _⟩ := h; exact nr a
    | dT ks ps => obtain ⟨a, xs, o, rfl, _⟩ := h; exact nr a
    | ins c ns ps => obtain ⟨a, C, dx, fs, o, rfl, _⟩ := h; exact nr a
  · cases o <;> exact nr a
theorem oIsN_s : Op2S L oIsN (fun x y H Q => y = .non ∧ Q (.bl (decide (x = .non))) H) := fun rs p q z x y H Q st hx hy e hQ => by
  cases q <;> try cases e
  exact ⟨rv_non hy, hQ _ H (st.push_val (congrArg V.bl (rv_isN hx)))⟩
theorem oNotN_s : Op2S L oNotN (fun x y H Q => y = .non ∧ Q (.bl (!decide (x = .non))) H) := fun rs p q z x y H Q st hx hy e hQ => by
  cases q <;> try cases e
  exact ⟨rv_non hy, hQ _ H (st.push_val (congrArg (fun b => V.bl (!b)) (rv_isN hx)))⟩

/-! ### repr -/
def reprP (p : PV) : Option Str :=
  match pd p with
  | some d => if d.canLay0 && d.showable && decide (d.depth ≤ 64) && decide (d.shown.length ≤ sizeLine) then some d.shown else none
  | none => none
def bRepr : PV → Option Rv := fun p => (reprP p).map fun x => .val (.str x)
def rRepr (K : PySem.W.Frag) : List V → Hp → VK → Prop := fun xs H Q => ∃ x d, xs = [x] ∧ Dp K H x d ∧ d.canLay0 = true ∧ d.showable = true ∧ d.depth ≤ 64 ∧ d.shown.length ≤ sizeLine ∧ Q (.str d.shown) H
theorem call_reprD {X : Cx} (hg : X.A.guards = some []) (hu : X.A.units + 80 < cLine) : CallR X (.builtin "repr") (rRepr X.K) := by
  intro pins s σ H xs us Q I r h
  obtain ⟨x, d, rfl, hd, hl, hs, hdp, hz, q⟩ := h
  obtain ⟨u, rfl, ru⟩ := vals1 r
  obtain ⟨as, rd⟩ := Dp.reads I d x u hd ru
  cases hd with
  | non =>
    cases (show u = Value.none from ru)
    exact PySem.P.repr_of_none ⟨.str _, H, I.tok _, ⟨_, rfl⟩, q⟩
  | bl b =>
    cases (show u = Value.bool b from ru)
    exact PySem.P.repr_of_bool ⟨.str _, H, I.tok _, ⟨_, rfl⟩, q⟩
  | int i =>
    obtain ⟨t, rfl⟩ := ru
    exact PySem.P.repr_of_int (of_decide_eq_true (by simpa [PyData.showable] using hs)) ⟨.str _, H, I.tok _, ⟨_, rfl⟩, q⟩
  | str y =>
    obtain ⟨t, rfl⟩ := ru
    exact PySem.P.repr_of_str ⟨.str _, H, I.tok _, ⟨_, rfl⟩, q⟩ hz
  | lst h1 h2 =>
    obtain rfl : u = Value.ref _ := ru
    exact repr_of_reads' rd hs (PyData.noDict_hsm (PyData.hasDict_of_canLay _ hl)) hg (by omega) (fun _ _ e => e) (fun h' u' tk hk => ⟨.str _, H, (I.kept (t' := tk) fun b o e => hk b o e), ⟨u', rfl⟩, q⟩) hz
  | tup h1 h2 =>
    obtain rfl : u = Value.ref _ := ru
    exact repr_of_reads' rd hs (PyData.noDict_hsm (PyData.hasDict_of_canLay _ hl)) hg (by omega) (fun _ _ e => e) (fun h' u' tk hk => ⟨.str _, H, (I.kept (t' := tk) fun b o e => hk b o e), ⟨u', rfl⟩, q⟩) hz
theorem bRepr_s : OpNS L (op1 bRepr) (rRepr L.X.K) := op1_s fun rs p z x H Q st hx e hQ => by
  obtain ⟨t, e1, e2⟩ := Option.map_eq_some_iff.mp (show (reprP p).map _ = some z from e)
  subst e2
  unfold reprP at e1
  cases ed : pd p with
  | none => rw [ed] at e1; cases e1
  | some d =>
    rw [ed] at e1
    simp only at e1
    split at e1
    · rename_i hs
      simp only [Bool.and_eq_true, decide_eq_true_eq] at hs
      cases e1
      exact ⟨x, d, rfl, RpV.dp ed hx, hs.1.1.1, hs.1.1.2, hs.1.2, hs.2, hQ _ H (st.push_val rfl)⟩
    · cases e1

/-! ### isinstance -/
inductive TyM (K : PySem.W.Frag) (H : Hp) : V → Value → Prop where
  | base {x : V} {t : Value} (h : TyX K H x t) : TyM K H x t
  | fins {a C dx : Addr} {fs : List (Str × V)} {o : Obj} (e : H a = some (.frz o (.ins C dx fs))) (c : C8.InsC K C) : TyM K H (.ref a) (.ref C)
theorem kit_ofM {X : Cx} {pins : List (Addr × Obj)} {σ : L2.St} {H : Hp} {s : Shared} {x : V} {u t : Value} (I : L2.Inv X pins σ H s) (rx : RelV x u) (ty : TyM X.K H x t) : ∃ P : Heap → Prop, PySem.W.KitX X.K u t P ∧ P s.heap ∧ u ≠ .builtin "__main__.__loader__#opaque" := by
  cases ty with
  | base h => exact kit_of I rx h
  | @fins a C dx fs o e c =>
    cases (show u = Value.ref a from rx)
    obtain ⟨h0, d, z, ne, ob, mA, n, r, q⟩ := (show ObjOk X.prog X.w H s.heap a (.frz o (.ins C dx fs)) from I.hok a _ e)
    have O : ObjM s.heap a dx C mA := ⟨ob, n, ne⟩
    obtain ⟨od, J, _⟩ := O.look
    exact ⟨_, PySem.W.kitx_own (c.cl.get _) c.cl.hd c.ha c.hn c.htk c.hm, J, fun z => nomatch z⟩
def rIsiM (K : PySem.W.Frag) : List V → Hp → VK → Prop := fun xs H Q => ∃ (x c : V) (t u : Value) (b : Bool), xs = [x, c] ∧ ClsV c u ∧ TyM K H x t ∧ PySem.W.kitOne K t u = some b ∧ Q (.bl b) H
theorem call_isiM {X : Cx} : CallR X (.builtin "isinstance") (rIsiM X.K) := by
  intro pins s σ H xs us Q I r h
  obtain ⟨x, c, t, u, b, rfl, k, ty, e, q⟩ := h
  obtain ⟨u1, u2, rfl, r1, r2⟩ := vals2 r
  have e2 := k.eq r2
  subst e2
  obtain ⟨P, Z, p, hx⟩ := kit_ofM I r1 ty
  exact PySem.W.kia_one Z I.kIn p e hx fun tk => ⟨.bl b, H, I.tok tk, rfl, q⟩
/-- the built-in type of a value -/
def tyP : PV → Option String
  | .non => some "NoneType"
  | .bl _ => some "bool"
  | .int _ => some "int"
  | .str _ => some "str"
  | .tup _ => some "tuple"
  | .lst _ => some "list"
  | _ => none
def tyT (bt : String → Option Bool) (ct : Str → Option Bool) : PV → Option Bool
  | .ins c _ _ => ct c
  | p => (tyP p).bind bt
theorem FzL.ty {K : PySem.W.Frag} {H : Hp} {a : Addr} {xs : List V} (h : SqL K H a xs) : TyX K H (.ref a) (.type "list") := by
  rcases h with (h | ⟨o, h⟩) | ⟨o, its, n, h1, h2, _⟩
  · exact .base (.lst h)
  · exact .base (.frz h)
  · exact .kList h1 h2
theorem SqT.ty {K : PySem.W.Frag} {H : Hp} {a : Addr} {xs : List V} (h : SqT K H a xs) : TyX K H (.ref a) (.type "tuple") := by
  rcases h with (h | ⟨o, h⟩) | ⟨o, its, n, h1, h2, _⟩
  · exact .base (.tup h)
  · exact .fTuple h
  · exact .kTuple h1 h2
theorem tyM_of {K : PySem.W.Frag} {mg : Str → Option Value} {H : Hp} {u : Value} {bt : String → Option Bool} {ct : Str → Option Bool} (hb : ∀ T b, bt T = some b → PySem.W.kitOne K (.type T) u = some b)
    (hc : ∀ c b C, ct c = some b → mg c = some (.ref C) → C8.InsC K C ∧ PySem.W.kitOne K (.ref C) u = some b) {p : PV} {b : Bool} {v : V} (e : tyT bt ct p = some b) (h : RpV K mg H p v) : ∃ t, TyM K H v t ∧ PySem.W.kitOne K t u = some b := by
  cases p with
  | non => rw [rv_non h]; exact ⟨_, .base (.base .non), hb _ _ e⟩
  | bl x => rw [rv_bl h]; exact ⟨_, .base (.base (.bl x)), hb _ _ e⟩
  | int x => rw [rv_int h]; exact ⟨_, .base (.base (.int x)), hb _ _ e⟩
  | str x => rw [rv_str h]; exact ⟨_, .base (.base (.str x)), hb _ _ e⟩
  | tup ps => obtain ⟨a, xs, rfl, h1, _⟩ := rv_tup h; exact ⟨_, .base (SqT.ty h1), hb _ _ e⟩
  | lst ps => obtain ⟨a, xs, rfl, h1, _⟩ := rv_lst h; exact ⟨_, .base (FzL.ty h1), hb _ _ e⟩
  | dK _ _ => cases e
  | dT _ _ => cases e
  | ins c ns ps =>
    rcases h with ⟨a, C, dx, fs, o, rfl, h0, h1, _⟩ | ⟨a, o, rfl, eo, h⟩
    · obtain ⟨k1, k2⟩ := hc c b C e h0
      exact ⟨_, .fins h1 k1, k2⟩
    · cases o with
      | ins c' ns' ps' =>
        cases eo
        obtain ⟨C, dx, fs, h0, h1, _⟩ := h
        obtain ⟨k1, k2⟩ := hc c b C e h0
        exact ⟨_, .base (.base (.ins h1 k1.cl k1.ha k1.hn k1.htk k1.hm)), k2⟩
      | _ => cases eo
def eIsi (bt : String → Option Bool) (ct : Str → Option Bool) (f : ESem) : ESem := eUn (fun p => (tyT bt ct p).map fun b => .val (.bl b)) f
theorem e_isi {e c : Expr} {f : ESem} {cv : V} {u : Value} {bt : String → Option Bool} {ct : Str → Option Bool} {p pos : Pos} (hb : ∀ T b, bt T = some b → PySem.W.kitOne L.X.K (.type T) u = some b)
    (hc : ∀ c b C, ct c = some b → L.X.mg c = some (.ref C) → C8.InsC L.X.K C ∧ PySem.W.kitOne L.X.K (.ref C) u = some b) (hcl : PE L.X c (tC cv)) (hcv : ClsV cv u) (hg : Gl L.X "isinstance") (hm : L.X.mg "isinstance" = none) (he : PE L.X e (tE L f))
    (hs1 : starEach [e, c] L.X.env = (false, eval e L.X.env) :: starEach [c] L.X.env) (hs2 : starEach [c] L.X.env = (false, eval c L.X.env) :: starEach [] L.X.env) (hpl : (backTo pos (starEach [c] L.X.env)).any (·.1) = false) :
    PE L.X (.Call (.Name "isinstance" p) [e, c] [] pos) (tE L (eIsi bt ct f)) :=
  peI (pe_callB call_isiM hg hm rfl (pa_cons he (pa_cons hcl pa_nil hs2) hs1) (by decide) (by decide) hs1 hpl) fun σ H Q q => by
    obtain ⟨Γ, T, hl, st, q⟩ := q
    refine tE_bind hl (List.Sublist.refl T) st q fun d Γ1 x H1 hl1 o1 h1 => ?_
    show rIsiM L.X.K [x, cv] H1 Q
    unfold lift1 at h1
    cases e1 : vw Γ1 d with
    | none => rw [e1] at h1; exact h1.elim
    | some p =>
      rw [e1] at h1
      cases e2 : tyT bt ct p with
      | none => simp only [Option.bind_some, e2, Option.map_none] at h1; exact h1.elim
      | some b =>
        simp only [Option.bind_some, e2, Option.map_some] at h1
        obtain ⟨t, ty, k⟩ := tyM_of hb hc e2 (view_of o1.st o1.has e1)
        exact ⟨x, cv, t, u, b, rfl, hcv, ty, k, h1 hl1 _ _ (.mk_val o1.back rfl)⟩
/-! ### chains of two comparisons -/
def eChn (op op' : PV → PV → Option Rv) (f g k : ESem) : ESem := fun Γ => (f Γ).bind fun d1 Γ1 => (g Γ1).bind fun d2 Γ2 =>
  match vw Γ2 d1, vw Γ2 d2 with
  | some p, some q =>
    match op p q with
    | some (.val (.bl true)) => (k Γ2).bind fun d3 Γ3 => lift2 op' d2 d3 Γ3
    | some (.val (.bl false)) => .ok (.val (.bl false)) Γ2
    | _ => .no
  | _, _ => .no
theorem chn_go {op op' : PV → PV → Option Rv} {f g k : ESem} {r r' : R2} {σ : L2.St} {H : Hp} {Q : VK} (ho : Op2S L op r) (ho' : Op2S L op' r') (q : tE L (eChn op op' f g k) σ H Q) : tChain r r' (tE L f) (tE L g) (tE L k) σ H Q := by
  obtain ⟨Γ, T, hl, st, q⟩ := q
  refine tE_bind hl (List.Sublist.refl T) st q fun d1 Γ1 x H1 hl1 o1 h1 => ?_
  refine tE_bind hl1 (psh_sub d1 x T) o1.st h1 fun d2 Γ2 y H2 hl2 o2 h2 => ?_
  have has1 := o1.has.up fun r hr => (psh_sub d2 y _).subset hr
  cases e1 : vw Γ2 d1 with
  | none => simp only [e1] at h2; exact h2.elim
  | some p =>
    cases e2 : vw Γ2 d2 with
    | none => simp only [e1, e2] at h2; exact h2.elim
    | some q =>
      simp only [e1, e2] at h2
      cases e3 : op p q with
      | none => simp only [e3] at h2; exact h2.elim
      | some z =>
        cases z with
        | tmp oz => simp only [e3] at h2; exact h2.elim
        | val pz =>
          cases pz <;> try (simp only [e3] at h2; exact h2.elim)
          rename_i bz
          refine ho _ p q _ x y H2 _ o2.st (view_of o2.st has1 e1) (view_of o2.st o2.has e2) e3 fun v H3 st3 => ?_
          obtain ⟨v', ev, rv⟩ := st3.rel (some v, .sh (.bl bz)) List.mem_cons_self
          cases ev
          refine ⟨bz, rv, ?_⟩
          cases bz with
          | true =>
            simp only [e3] at h2
            rw [if_pos rfl]
            refine tE_bind hl2 ((psh_sub d1 x T).trans (psh_sub d2 y _)) st3.tail h2 fun d3 Γ3 w H4 hl3 o3 h3 => ?_
            exact lift2_fin ho' hl3 (((psh_sub d1 x T).trans (psh_sub d2 y _)).trans (psh_sub d3 w _)) o3.st (o2.has.up fun r hr => (psh_sub d3 w _).subset hr) o3.has h3
          | false =>
            simp only [e3] at h2
            rw [if_neg (by simp)]
            exact h2 hl2 _ _ (.mk_val (st3.tail.sub (List.Sublist.append (List.Sublist.refl _) ((psh_sub d1 x T).trans (psh_sub d2 y _)))) rfl)
theorem e_chn {a b c : Expr} {o o' : CmpOp} {op op' : PV → PV → Option Rv} {f g k : ESem} {r r' : R2} {pos : Pos} (ha : PE L.X a (tE L f)) (hb : PE L.X b (tE L g)) (hc : PE L.X c (tE L k)) (hr : OpR L.X (compareOp o) r) (hr' : OpR L.X (compareOp o') r') (ho : Op2S L op r) (ho' : Op2S L op' r')
    (h : PE L.X (.Compare a [o, o'] [b, c] pos) (tChain r r' (tE L f) (tE L g) (tE L k))) : PE L.X (.Compare a [o, o'] [b, c] pos) (tE L (eChn op op' f g k)) := peI h fun σ H Q q => chn_go ho ho' q
end
end Mv
end S14_

section S15_
set_option Elab.async false
set_option linter.all false
set_option maxRecDepth 100000
namespace Mv
open PySem PySem.Spec PyProof.Rows L2

/-! ### fields -/
def lookP (f : Str) : List Str → List PV → Option PV
  | n :: ns, p :: ps => if n = f then some p else lookP f ns ps
  | _, _ => none
def putN (f : Str) : List Str → List Str
  | [] => [f]
  | g :: r => if g = f then g :: r else g :: putN f r
def putP (f : Str) (v : PV) : List Str → List PV → List PV
  | g :: ns, p :: ps => if g = f then v :: ps else p :: putP f v ns ps
  | [], _ => [v]
  | _, [] => []
section
variable {K : PySem.W.Frag} {mg : Str → Option Value} {H : Hp}
theorem lookP_some {f : Str} {q : PV} : ∀ {fs : List (Str × V)} {ps : List PV}, RpA K mg H ps (fs.map (·.2)) → lookP f (fs.map (·.1)) ps = some q → ∃ v, fs.lookup f = some v ∧ Rp K mg H q v
  | [], ps, h, e => by cases ps <;> cases e
  | (g, x) :: fs, [], h, e => by cases e
  | (g, x) :: fs, p :: ps, h, e => by
    obtain ⟨y, r, e1, h1, h2⟩ := h
    cases e1
    have e : (if g = f then some p else lookP f (fs.map (·.1)) ps) = some q := e
    by_cases hg : g = f
    · rw [if_pos hg] at e
      cases e
      subst hg
      exact ⟨x, by simp [List.lookup], h1⟩
    · rw [if_neg hg] at e
      obtain ⟨v, h3, h4⟩ := lookP_some h2 e
      refine ⟨v, ?_, h4⟩
      have : (f == g) = false := beq_eq_false_iff_ne.mpr fun z => hg z.symm
      show List.lookup f ((g, x) :: fs) = some v
      simp only [List.lookup, this]
      exact h3
theorem putF_fst (f : Str) (v : V) : ∀ fs : List (Str × V), (putF f v fs).map (·.1) = putN f (fs.map (·.1))
  | [] => rfl
  | (g, x) :: fs => by
    show (if g = f then (g, v) :: fs else (g, x) :: putF f v fs).map (·.1) = (if g = f then g :: fs.map (·.1) else g :: putN f (fs.map (·.1)))
    by_cases hg : g = f
    · rw [if_pos hg, if_pos hg]; rfl
    · rw [if_neg hg, if_neg hg, List.map_cons, putF_fst f v fs]
theorem putF_snd {f : Str} {v : V} {p : PV} (hv : Rp K mg H p v) : ∀ {fs : List (Str × V)} {ps : List PV}, RpA K mg H ps (fs.map (·.2)) → RpA K mg H (putP f p (fs.map (·.1)) ps) ((putF f v fs).map (·.2))
  | [], ps, h => by
    cases ps with
    | nil => exact ⟨v, [], rfl, hv, rfl⟩
    | cons q ps => obtain ⟨x, r, e, _⟩ := h; cases e
  | (g, x) :: fs, [], h => by cases (show (x :: fs.map (·.2)) = [] from h)
  | (g, x) :: fs, q :: ps, h => by
    obtain ⟨y, r, e1, h1, h2⟩ := h
    cases e1
    show RpA K mg H (if g = f then p :: ps else q :: putP f p (fs.map (·.1)) ps) ((if g = f then (g, v) :: fs else (g, x) :: putF f v fs).map (·.2))
    by_cases hg : g = f
    · rw [if_pos hg, if_pos hg]; exact ⟨v, fs.map (·.2), rfl, hv, h2⟩
    · rw [if_neg hg, if_neg hg]; exact ⟨x, _, rfl, h1, putF_snd hv h2⟩
end
/-- what of the class a field access leans on; ok: the classes that are known to do so -/
def FldOk (K : PySem.W.Frag) (mg : Str → Option Value) (ok : Str → Bool) (f : Str) : Prop := ∀ c C, ok c = true → mg c = some (.ref C) → Cls K C ∧ NoAttr K C f
theorem ins_frz {X : Cx} {pins : List (Addr × Obj)} {σ : L2.St} {H : Hp} {s : Shared} {a C dx : Addr} {fs : List (Str × V)} {o : Obj} (I : L2.Inv X pins σ H s) (e : H a = some (.frz o (.ins C dx fs))) : ∃ mA, ObjM s.heap a dx C mA ∧ ∀ f, RelO (fs.lookup f) (mA f) := by
  obtain ⟨h0, d, z, ne, ob, mA, n, r, q⟩ := (show ObjOk X.prog X.w H s.heap a (.frz o (.ins C dx fs)) from I.hok a _ e)
  exact ⟨mA, ⟨ob, n, ne⟩, r⟩
theorem getattr_frz {X : Cx} {pins : List (Addr × Obj)} {σ : L2.St} {H : Hp} {s : Shared} {a C dx : Addr} {fs : List (Str × V)} {o : Obj} {f : Str} {v : V} {A : Around} {E : Value → Shared → Prop} {b : Bool} {Q : Value → Shared → Prop} (I : L2.Inv X pins σ H s) (e : H a = some (.frz o (.ins C dx fs))) (c : Cls X.K C) (n : NoAttr X.K C f) (l : fs.lookup f = some v)
    (h : ∀ u s', L2.Inv X pins σ H s' → RelV v u → Q u s') : wpAny (model X.prog X.w) A (getAttr (.ref a) f b) Q E s := by
  obtain ⟨mA, O, r⟩ := ins_frz I e
  obtain ⟨u, hu, ru⟩ := RelO.some_of (v := v) (o := mA f) (by rw [← l]; exact r f)
  exact get_map I.kIn O (c.get f) c.hd n hu (handed_of ru) (h u _ (I.tok _) ru)
def eFld (ok : Str → Bool) (f : Str) (g : ESem) : ESem := fun Γ => (g Γ).bind fun d Γ' => match vw Γ' d with
  | some (.ins c ns ps) => if ok c then
      match lookP f ns ps with
      | some p => .ok (.val p) Γ'
      | none => .no
    else .no
  | _ => .no
section
variable {L : Lx} {pos : Pos}
theorem e_fld {e : Expr} {f : Str} {g : ESem} {ok : Str → Bool} (hok : FldOk L.X.K L.X.mg ok f) (he : PE L.X e (tE L g)) (hb : attributeBase e f L.X.env (eval e L.X.env) = eval e L.X.env) : PE L.X (.Attribute e f pos) (tE L (eFld ok f g)) := by
  refine ⟨fun pins s σ H Q I h => ?_⟩
  obtain ⟨Γ, T, hl, st, h⟩ := h
  have h2 := tE_bind (R := fun x H1 => ∃ d Γ1, Γ1.length = σ.length ∧ OpP L σ Γ1 T d x H1 ∧ Pst L σ T (match vw Γ1 d with
    | some (.ins c ns ps) => if ok c then
        match lookP f ns ps with
        | some p => Rs.ok (Opd.val p) Γ1
        | none => .no
      else .no
    | _ => .no) fun d Γ' => ∀ v H', OpP L σ Γ' T d v H' → Q v H') hl (List.Sublist.refl T) st h fun d Γ1 x H1 hl1 o1 h1 => ⟨d, Γ1, hl1, o1, h1⟩
  refine attr_of hb (thn (he.run pins s σ H _ I h2) fun u s1 ⟨x, H1, I1, rx, d, Γ1, hl1, o1, h1⟩ => ?_)
  cases e1 : vw Γ1 d with
  | none => rw [e1] at h1; exact h1.elim
  | some p =>
    rw [e1] at h1
    cases p <;> try exact h1.elim
    rename_i c ns ps
    simp only at h1
    split at h1
    · rename_i hc
      cases e2 : lookP f ns ps with
      | none => rw [e2] at h1; exact h1.elim
      | some p =>
        rw [e2] at h1
        rcases view_of o1.st o1.has e1 with ⟨a, C, dx, fs, o, rfl, h0, h3, h4, h5⟩ | ⟨a, o, rfl, eo, h3⟩
        · subst h4
          obtain ⟨v, h6, h7⟩ := lookP_some h5 e2
          obtain ⟨k1, k2⟩ := hok c C hc h0
          obtain rfl : u = Value.ref a := rx
          exact getattr_frz I1 h3 k1 k2 h6 fun u' s2 I2 ru => ⟨v, H1, I2, ru, h1 hl1 _ _ (.mk_val o1.back h7)⟩
        · cases o with
          | ins c' ns' ps' =>
            cases eo
            obtain ⟨C, dx, fs, h0, h3, h4, h5⟩ := h3
            subst h4
            obtain ⟨v, h6, h7⟩ := lookP_some h5 e2
            obtain ⟨k1, k2⟩ := hok c C hc h0
            obtain rfl : u = Value.ref a := rx
            exact getattr_ok I1 h3 k1 k2 h6 fun u' s2 I2 ru => ⟨v, H1, I2, ru, h1 hl1 _ _ (.mk_val o1.back h7)⟩
          | _ => cases eo
    · exact h1.elim
/-- x.f = e, x one's own instance -/
def fldS (ok : Str → Bool) (j : Nat) (f : Str) (g : ESem) : SSem := fun Γ => (eZ g Γ).fl fun d Γ' =>
  match d, Γ'[j]? with
  | .val p, some (.ow (.ins c ns ps)) => if ok c ∧ ns.length < 1000 then .nx (Γ'.set j (.ow (.ins c (putN f ns) (putP f p ns ps)))) else .no
  | _, _ => .no
theorem s_fld {x : Str} {px pos' : Pos} {j : Nat} {e : Expr} {f : Str} {g : ESem} {ok : Str → Bool} (hok : FldOk L.X.K L.X.mg ok f) (hv : PE L.X (.Name x px) (tVar j)) (he : PE L.X e (tE L g))
    (hs : swapsWith e (some (.Attribute (.Name x px) f pos')) pos.line L.X.env = pure false) : PS L.X (.Assign [.Attribute (.Name x px) f pos'] e pos) (tS L (fldS ok j f g)) := psI (ps_fld hv (e_z he) hs) fun D σ H q => by
  obtain ⟨Γ, T, hl, hp, st, q⟩ := q
  refine tE_fl hl hp (List.Sublist.refl T) st q fun d Γ1 y H1 hl1 o1 h1 => ?_
  cases d with
  | tmp o => exact h1.elim
  | plc i => exact h1.elim
  | val p =>
    cases ej : Γ1[j]? with
    | none => simp only [ej] at h1; exact h1.elim
    | some sl =>
      simp only [ej] at h1
      cases sl with
      | un => exact h1.elim
      | sh p => exact h1.elim
      | ow o =>
        cases o <;> try exact h1.elim
        rename_i c ns ps
        simp only at h1
        split at h1
        · rename_i hc
          obtain ⟨hc, hn⟩ := hc
          obtain ⟨v0, hv0⟩ := slot_v hl1 ej
          obtain ⟨a, ea, C, dx, fs, h0, h2, h3, h4⟩ := o1.st.rel (v0, .ow (.ins c ns ps)) (List.mem_append_left _ (List.mem_of_getElem? (i := j) (by rw [List.getElem?_zip_eq_some]; exact ⟨hv0, ej⟩)))
          have ea : v0 = some (.ref a) := ea
          subst ea h3
          obtain ⟨y', ey, hy⟩ := o1.st.rel (some y, .sh p) (List.mem_append_right _ List.mem_cons_self)
          cases ey
          obtain ⟨k1, k2⟩ := hok c C hc h0
          refine ⟨.ref a, hv0, a, C, dx, fs, rfl, h2, k1, k2, by simpa using hn, ?_⟩
          have le := Le.write (o := .ins C dx (putF f y fs)) h2 trivial
          refine h1 σ _ (by rw [List.length_set]; exact hl1) rfl hp (St.putS o1.back hv0 ej ⟨C, dx, putF f y fs, h0, upd_same, putF_fst f y fs, RpA.le le _ _ (putF_snd hy h4)⟩)
        · exact h1.elim
end

/-! ### calls with values alone -/
section
variable {L : Lx} {rs : List RS} {H : Hp}
theorem own_vals : ∀ (qs : List PV) (vs : List V), own ((vs.map some).zip (qs.map Slot.sh)) = []
  | [], vs => by cases vs <;> rfl
  | q :: qs, [] => rfl
  | q :: qs, v :: vs => by
    show own ((some v, Slot.sh q) :: (vs.map some).zip (qs.map Slot.sh)) = []
    rw [own_sh]
    exact own_vals qs vs
theorem rel_vals : ∀ {qs : List PV} {vs : List V}, RpA L.X.K L.X.mg H qs vs → ∀ r ∈ (vs.map some).zip (qs.map Slot.sh), RelS L.X.K L.X.mg H r
  | [], vs, h, r, hr => by rw [show vs = [] from h] at hr; cases hr
  | q :: qs, vs, h, r, hr => by
    obtain ⟨x, r', e, h1, h2⟩ := h
    subst e
    rcases List.mem_cons.mp (show r ∈ (some x, Slot.sh q) :: (r'.map some).zip (qs.map Slot.sh) from hr) with rfl | hr
    · exact ⟨x, rfl, h1⟩
    · exact rel_vals h2 r hr
theorem not_ow {qs : List PV} {i : Nat} {o : OV} : (qs.map Slot.sh)[i]? ≠ some (.ow o) := fun h => by
  rw [List.getElem?_map] at h
  cases e : qs[i]? with
  | none => rw [e] at h; cases h
  | some q => rw [e] at h; cases h
theorem spF_vals {F : FSem} {qs : List PV} {vs : List V} {n : Nat} {Q : VK} {E : XK} (st : St L rs H) (hr : RpA L.X.K L.X.mg H qs vs) (hn : qs.length = n)
    (hF : match F (qs.map .sh) with
      | .ret r [] => ∀ v H', St L ((some v, r) :: rs) H' → Q v H'
      | .ex e [] => ∀ C d H', St L rs H' → ExG L.X.K L.X.mg e C d H' → E C d H'
      | _ => False) : spF L.X.K L.X.mg [] n F vs H Q E := by
  refine ⟨by rw [hr.len, hn], qs.map .sh, by rw [List.length_map, hn], rel_vals hr, by rw [own_vals]; exact List.nodup_nil, fun i o h => absurd h not_ow, fun i hi => (nomatch hi), ?_⟩
  cases eF : F (qs.map .sh) with
  | ret r outs =>
    rw [eF] at hF
    cases outs with
    | cons o os => exact hF.elim
    | nil => exact fun v H' A => hF v H' (St.after (W := []) (W' := []) (res := [(some v, r)]) st [] rfl rfl A.base A.rel A.nd A.new (fun r hr => nomatch hr))
  | ex e outs =>
    rw [eF] at hF
    cases outs with
    | cons o os => exact hF.elim
    | nil => exact fun C d H' A x => hF C d H' (St.after (W := []) (W' := []) (res := []) st [] rfl rfl A.base A.rel A.nd A.new (fun r hr => nomatch hr)) x
  | no => rw [eF] at hF; exact hF
theorem spF_new {F : FSem} {qs : List PV} {vs : List V} {n : Nat} {Q : VK} {E : XK} {x dx C : Addr} {c : Str} (st : St L rs H) (hr : RpA L.X.K L.X.mg H qs vs) (hn : qs.length + 1 = n) (hx : H x = none) (hd : H dx = none) (hne : dx ≠ x) (hc : L.X.mg c = some (.ref C))
    (hF : match F (.ow (.ins c [] []) :: qs.map .sh) with
      | .ret (.sh .non) [o] => ∀ H', St L ((some (.ref x), .ow o) :: rs) H' → Q .non H'
      | .ex e [o] => ∀ C d H', St L rs H' → ExG L.X.K L.X.mg e C d H' → E C d H'
      | _ => False) : spF L.X.K L.X.mg [0] n F (.ref x :: vs) (upd (upd H dx (.own x)) x (.ins C dx [])) Q E := by
  have le0 : Le H (upd H dx (.own x)) := Le.fresh hd
  have hx' : upd H dx (.own x) x = none := by rw [upd_ne (fun z => hne z.symm)]; exact hx
  have le1 : Le (upd H dx (.own x)) (upd (upd H dx (.own x)) x (.ins C dx [])) := Le.fresh hx'
  have s1 : St L ((some (.ref x), .ow (.ins c [] [])) :: rs) (upd (upd H dx (.own x)) x (.ins C dx [])) := (st.fresh hd).push_own hx' ⟨C, dx, [], hc, upd_same, rfl, rfl⟩
  have hr1 := RpA.le (le0.trans le1) qs vs hr
  refine ⟨by rw [List.length_cons, hr.len, hn], .ow (.ins c [] []) :: qs.map .sh, by rw [List.length_cons, List.length_map, hn], fun r hr' => ?_, ?_, fun i o h => ?_, fun i hi => ?_, ?_⟩
  · rcases List.mem_cons.mp (show r ∈ (some (V.ref x), Slot.ow (.ins c [] [])) :: (vs.map some).zip (qs.map Slot.sh) from hr') with rfl | hr'
    · exact s1.rel _ List.mem_cons_self
    · exact rel_vals hr1 r hr'
  · show (own ((some (V.ref x), Slot.ow (.ins c [] [])) :: (vs.map some).zip (qs.map Slot.sh))).Nodup
    rw [own_ow, own_vals]
    exact List.pairwise_singleton _ _
  · cases i with
    | zero => exact List.mem_singleton.mpr rfl
    | succ i => exact absurd (by simpa using h) (not_ow (qs := qs) (i := i) (o := o))
  · rw [List.mem_singleton.mp hi]
    exact ⟨_, rfl⟩
  · have em : mAd [0] (.ref x :: vs) = [(0, x)] := rfl
    rw [em]
    have aft : ∀ {outs : List OV} {res : List RS} {H' : Hp}, Aft L.X.K L.X.mg (upd (upd H dx (.own x)) x (.ins C dx [])) [(0, x)] outs res H' → ∃ o, outs = [o] ∧ St L ((some (.ref x), .ow o) :: (res ++ rs)) H' := fun {outs res H'} A => by
      match outs, A.len with
      | [o], _ => exact ⟨o, rfl, St.after (W := [(some (.ref x), .ow (.ins c [] []))]) (W' := [(some (.ref x), .ow o)]) (res := res) (Rest := rs) s1 [x] (own_ow _ _ _) (own_ow _ _ _) A.base A.rel A.nd A.new (fun r hr => ⟨x, _, List.mem_singleton.mp hr⟩)⟩
    cases eF : F (.ow (.ins c [] []) :: qs.map .sh) with
    | no => rw [eF] at hF; exact hF
    | ret r outs =>
      rw [eF] at hF
      intro v H' A
      obtain ⟨o, eo, s2⟩ := aft A
      subst eo
      cases r with
      | un => exact hF.elim
      | ow o' => exact hF.elim
      | sh p =>
        cases p <;> try exact hF.elim
        have s3 : St L ((some (.ref x), .ow o) :: (some v, .sh .non) :: rs) H' := s2
        obtain ⟨w, ew, rw'⟩ := s3.rel (some v, .sh .non) (List.mem_cons_of_mem _ List.mem_cons_self)
        cases ew
        obtain rfl : v = V.non := rw'
        exact hF H' (s3.sub ((List.sublist_cons_self _ _).cons_cons _))
    | ex e outs =>
      rw [eF] at hF
      intro C' d H' A x'
      obtain ⟨o, eo, s2⟩ := aft A
      subst eo
      exact hF C' d H' s2.tail x'
end
def allV : List Opd → Option (List PV)
  | [] => some []
  | .val p :: ds => (allV ds).map (p :: ·)
  | _ => none
theorem allV_rp {L : Lx} {σ : L2.St} {H : Hp} : ∀ {ds : List Opd} {vs : List V} {qs : List PV} {R : List RS}, allV ds = some qs → vs.length = ds.length → St L R H → (∀ (i : Nat) d v, ds[i]? = some d → vs[i]? = some v → Has σ R d v) → RpA L.X.K L.X.mg H qs vs ∧ qs.length = ds.length
  | [], vs, qs, R, h, hl, st, has => by
    cases h
    exact ⟨List.length_eq_zero_iff.mp hl, rfl⟩
  | d :: ds, [], qs, R, h, hl, st, has => by cases hl
  | d :: ds, v :: vs, qs, R, h, hl, st, has => by
    cases d with
    | tmp o => cases h
    | plc i => cases h
    | val p =>
      obtain ⟨l, e1, e2⟩ := Option.map_eq_some_iff.mp (show (allV ds).map _ = _ from h)
      subst e2
      obtain ⟨x, ex, rx⟩ := st.rel _ (has 0 (.val p) v rfl rfl)
      cases ex
      obtain ⟨h1, h2⟩ := allV_rp e1 (by simpa using hl) st fun i d' v' a b => has (i + 1) d' v' (by simpa using a) (by simpa using b)
      exact ⟨⟨v, vs, rfl, rx, h1⟩, by rw [List.length_cons, List.length_cons, h2]⟩
end Mv
end S15_

section S16_
set_option Elab.async false
set_option linter.all false
set_option maxRecDepth 100000
namespace Mv
open PySem PySem.Spec PyProof.Rows L2

theorem make_guards {A : Around} {C : Addr} {us : List Value} {kw : List (Str × Value)} : (A.under (.builtin "type.__call__" ⟨.ref C :: us, kw⟩)).guards = A.guards := by
  first | rfl | simp [Around.under, Code.weight, Code.isCreation, Code.isGuard, Code.isCaller, Code.frames, Code.isFrame, guardIds]
/-- what of an own class its construction leans on -/
structure MkC (K : PySem.W.Frag) (mg : Str → Option Value) (c : Str) (C f : Addr) : Prop where
  m : L2.Mk K C f
  g : mg c = some (.ref C)
def newR (c : Str) (F : FSem) (qs : List PV) (Γ : Env) : Rs Opd :=
  match F (.ow (.ins c [] []) :: qs.map .sh) with
  | .ret (.sh .non) [o] => .ok (.tmp o) Γ
  | .ex e [_] => .ex e Γ
  | _ => .no
def newV (c : Str) (F : FSem) (ds : List Opd) (Γ : Env) : Rs Opd :=
  match allV ds with
  | some qs => newR c F qs Γ
  | none => .no
def eNew (c : Str) (F : FSem) (a : ASem) : ESem := fun Γ => (a Γ).bind (newV c F)
section
variable {L : Lx} {σ : L2.St} {T R : List RS} {pins : List (Addr × Obj)} {s : Shared} {Γ : Env} {vs : List V} {us : List Value} {qs : List PV} {H : Hp} {k : Nat} {f C : Addr} {fd : FuncData} {ps : List Str} {F : FSem} {c : Str} {Q : VK}
theorem new_core {args : Args} (M : MkC L.X.K L.X.mg c C f) (FG : FnG L.X.prog L.X.w L.X.K L.X.mg L.X.base k f fd ps (spF L.X.K L.X.mg [0] ps.length F)) (hr : RoomG (k + 1) L.X.A) (hx : Passes (L2.CX L.X.prog L.X.w) L.X L.E) (I : L2.Inv L.X pins σ H s) (hl : Γ.length = σ.length) (st : St L (σ.zip Γ ++ R) H) (hT : T.Sublist R)
    (hq : RpA L.X.K L.X.mg H qs vs) (hn : qs.length + 1 = ps.length) (rv : Vals vs us)
    (hbt : ∀ (s : Shared) (x : Value), L.X.K.In s.heap → BindsTo s fd ⟨x :: args.pos, args.kw⟩ (ps.zip (x :: us)))
    (q : Pst L σ T (newR c F qs Γ) fun d Γ' => ∀ v H', OpP L σ Γ' T d v H' → Q v H') : wpAny (model L.X.prog L.X.w) L.X.A (call (.ref C) args.pos args.kw) (EP L.X pins σ Q) L.X.xe s := by
  have hfx : H (s.heap.objs.size + 1) = none := I.hok.fresh (Nat.le_succ _)
  have hfd : H s.heap.objs.size = none := I.hok.fresh (Nat.le_refl _)
  have I2 := Inv.made (C := C) I
  let x := s.heap.objs.size + 1
  have r2 : Vals (V.ref x :: vs) (Value.ref x :: us) := .cons rfl rv
  have hR : RoomG k (L.X.A.under (.builtin "type.__call__" ⟨.ref C :: args.pos, args.kw⟩)) := ⟨hr.r.make C args.pos args.kw, make_guards.trans hr.g⟩
  let Qm : VK := fun v H2 => v = .non ∧ ∃ o, F (.ow (.ins c [] []) :: qs.map .sh) = .ret (.sh .non) [o] ∧ St L ((some (.ref x), .ow o) :: (σ.zip Γ ++ R)) H2
  let Em : XK := fun C' d H2 => ∃ e o, F (.ow (.ins c [] []) :: qs.map .sh) = .ex e [o] ∧ St L (σ.zip Γ ++ R) H2 ∧ ExG L.X.K L.X.mg e C' d H2
  have hsp : spF L.X.K L.X.mg [0] ps.length F (.ref x :: vs) (upd (upd H s.heap.objs.size (.own x)) x (.ins C s.heap.objs.size [])) Qm Em := by
    refine spF_new st hq hn hfx hfd (Nat.ne_of_lt (Nat.lt_succ_self _)) M.g ?_
    unfold newR at q
    cases eF : F (.ow (.ins c [] []) :: qs.map .sh) with
    | no => rw [eF] at q; exact q.elim
    | ret r outs =>
      rw [eF] at q
      cases r with
      | un => exact q.elim
      | ow o => exact q.elim
      | sh p =>
        cases p <;> try exact q.elim
        match outs with
        | [] => exact q.elim
        | [o] => exact fun H' s1 => ⟨rfl, o, eF, s1⟩
        | _ :: _ :: _ => exact q.elim
    | ex e outs =>
      rw [eF] at q
      match outs with
      | [] => exact q.elim
      | [o] => exact fun C' d H' s1 xx => ⟨e, o, eF, s1, xx⟩
      | _ :: _ :: _ => exact q.elim
  refine wpAny_call (make_map (f := f) I.kIn M.m.makes M.m.init (beq_iff_eq.mp M.m.fn) (codeAny_mono (FG.go _ L.X.stack _ _ ⟨Value.ref x :: args.pos, args.kw⟩ (Value.ref x :: us) (V.ref x :: vs) Qm Em hR (I2.env0.make C args.pos args.kw) (hbt _ _ I2.kIn) r2 hsp) fun r s' hq' => ?_))
  cases r with
  | error e =>
    refine Passes.go hx I2 hq' fun C' d H2 ⟨e', o, eF, s1, xx⟩ => ?_
    unfold newR at q
    rw [eF] at q
    exact q C' d H2 hl (s1.sub (List.Sublist.append (List.Sublist.refl _) hT)) xx
  | ok fl =>
    cases fl with
    | ret u =>
      obtain ⟨v, H', I3, rv', ev, o, eF, s1⟩ := I2.after hq'
      subst ev
      unfold newR at q
      rw [eF] at q
      exact ⟨rv', ⟨V.ref x, H', I3, rfl, q hl _ _ ⟨(s1.perm List.perm_middle.symm).sub (List.Sublist.append (List.Sublist.refl _) (hT.cons_cons _)), fun i z => nomatch z⟩⟩⟩
    | next => exact False.elim hq'
    | brk => exact False.elim hq'
    | cont => exact False.elim hq'
end

/-! ### arguments by position and by name -/
section
variable {L : Lx} {σ : L2.St} {T : List RS} {pins : List (Addr × Obj)} {s : Shared} {Γ : Env} {H : Hp}
theorem pshs_app : ∀ {d1 d2 : List Opd} {v1 v2 : List V} {T : List RS}, v1.length = d1.length → pshs (d1 ++ d2) (v1 ++ v2) T = pshs d2 v2 (pshs d1 v1 T)
  | [], d2, [], v2, T, _ => by cases d2 <;> cases v2 <;> rfl
  | [], _, _ :: _, _, _, h => by cases h
  | _ :: _, _, [], _, _, h => by cases h
  | d :: d1, d2, v :: v1, v2, T, h => pshs_app (d1 := d1) (v1 := v1) (T := psh d v T) (by simpa using h)
theorem ArgP.app {Γ1 : Env} {d1 d2 : List Opd} {v1 v2 : List V} {H1 : Hp} (o1 : ArgP L σ Γ1 T d1 v1 H1) (o2 : ArgP L σ Γ (pshs d1 v1 T) d2 v2 H) : ArgP L σ Γ T (d1 ++ d2) (v1 ++ v2) H := by
  have e := pshs_app (d2 := d2) (v2 := v2) (T := T) o1.len
  refine ⟨by rw [e]; exact o2.st, by rw [List.length_append, List.length_append, o1.len, o2.len], fun i d v h1 h2 => ?_⟩
  rw [e]
  by_cases hi : i < d1.length
  · rw [List.getElem?_append_left hi] at h1
    rw [List.getElem?_append_left (by rw [o1.len]; exact hi)] at h2
    exact (o1.has i d v h1 h2).up fun r hr => (pshs_sub d2 v2 _).subset hr
  · rw [List.getElem?_append_right (by omega)] at h1
    rw [List.getElem?_append_right (by rw [o1.len]; omega), o1.len] at h2
    exact o2.has _ d v h1 h2
theorem aS_app : ∀ (fs gs : List ESem) (Γ : Env), aS (fs ++ gs) Γ = (aS fs Γ).bind fun d1 Γ1 => (aS gs Γ1).bind fun d2 Γ2 => .ok (d1 ++ d2) Γ2
  | [], gs, Γ => by
    show aS gs Γ = (aS gs Γ).bind fun d2 Γ2 => .ok d2 Γ2
    cases aS gs Γ <;> rfl
  | f :: fs, gs, Γ => by
    show (f Γ).bind (fun d Γ1 => (aS (fs ++ gs) Γ1).bind fun ds Γ2 => .ok (d :: ds) Γ2) = Rs.bind ((f Γ).bind (fun d Γ1 => (aS fs Γ1).bind fun ds Γ2 => .ok (d :: ds) Γ2)) _
    cases f Γ with
    | no => rfl
    | ex x Γ1 => rfl
    | ok d Γ1 =>
      show (aS (fs ++ gs) Γ1).bind _ = Rs.bind ((aS fs Γ1).bind fun ds Γ2 => .ok (d :: ds) Γ2) _
      rw [aS_app fs gs Γ1]
      cases aS fs Γ1 with
      | no => rfl
      | ex x Γ2 => rfl
      | ok ds Γ2 =>
        show Rs.bind ((aS gs Γ2).bind _) _ = (aS gs Γ2).bind _
        cases aS gs Γ2 <;> rfl
theorem pkI {X : Cx} {kws : List Keyword} {t t' : TA} (h : PK X kws t) (i : ∀ σ H Q, t' σ H Q → t σ H Q) : PK X kws t' :=
  ⟨fun pos pins s σ H Q I q => h.run pos pins s σ H Q I (i σ H Q q)⟩
theorem k_nil : PK L.X [] (tA L (aS [])) := pkI pk_nil fun σ H Q q => by
  obtain ⟨Γ, T, hl, st, q⟩ := q
  exact q hl [] H ⟨st, rfl, fun i d v h => by simp at h⟩
theorem k_cons {nm : Option Str} {e : Expr} {kpos : Pos} {kws : List Keyword} {f : ESem} {fs : List ESem} (ha : PE L.X e (tE L f)) (hr : PK L.X kws (tA L (aS fs))) : PK L.X (⟨nm, e, kpos⟩ :: kws) (tA L (aS (f :: fs))) :=
  pkI (pk_cons ha hr) fun σ H Q q => by
    obtain ⟨Γ, T, hl, st, q⟩ := q
    refine tE_bind hl (List.Sublist.refl T) st q fun d Γ1 x H1 hl1 o1 h1 => ?_
    refine tA_bind hl1 (psh_sub d x T) o1.st h1 fun ds Γ2 xs H2 hl2 o2 h2 => ?_
    refine h2 hl2 (x :: xs) H2 ⟨o2.st, by rw [List.length_cons, List.length_cons, o2.len], fun i d' v' e1 e2 => ?_⟩
    cases i with
    | zero =>
      simp at e1 e2
      subst e1 e2
      exact o1.has.up fun r hr => (pshs_sub ds xs _).subset hr
    | succ i => exact o2.has i d' v' (by simpa using e1) (by simpa using e2)
variable {α : Type} {k : List Opd → Env → Rs α} {Kp : α → Env → Prop}
/-- two lists of arguments, one behind the other -/
theorem two_args {fs gs : List ESem} {W : List V → List V → Hp → Prop} (hl : Γ.length = σ.length) (st : St L (σ.zip Γ ++ T) H) (h : Pst L σ T ((aS (fs ++ gs) Γ).bind k) Kp)
    (hW : ∀ v1 v2 ds Γ' H', Γ'.length = σ.length → v1.length = fs.length → v2.length = gs.length → ds.length = fs.length + gs.length → ArgP L σ Γ' T ds (v1 ++ v2) H' → Pst L σ T (k ds Γ') Kp → W v1 v2 H') :
    tA L (aS fs) σ H fun v1 H1 => tA L (aS gs) σ H1 fun v2 H2 => W v1 v2 H2 := by
  rw [aS_app] at h
  cases e1 : aS fs Γ with
  | no => rw [e1] at h; exact h.elim
  | ex x Γ1 =>
    rw [e1] at h
    refine ⟨Γ, T, hl, st, ?_⟩
    rw [e1]
    exact h
  | ok d1 Γ1 =>
    rw [e1] at h
    have n1 := aS_len fs Γ d1 Γ1 e1
    refine ⟨Γ, T, hl, st, ?_⟩
    rw [e1]
    intro hl1 v1 H1 o1
    have h : Pst L σ T (((aS gs Γ1).bind fun d2 Γ2 => .ok (d1 ++ d2) Γ2).bind k) Kp := h
    refine ⟨Γ1, pshs d1 v1 T, hl1, o1.st, ?_⟩
    cases e2 : aS gs Γ1 with
    | no => rw [e2] at h; exact h.elim
    | ex x Γ2 =>
      rw [e2] at h
      exact Pst.mono (α := α) (r := Rs.ex x Γ2) (k := Kp) (pshs_sub _ _ _) h
    | ok d2 Γ2 =>
      rw [e2] at h
      have n2 := aS_len gs Γ1 d2 Γ2 e2
      intro hl2 v2 H2 o2
      exact hW v1 v2 (d1 ++ d2) Γ2 H2 hl2 (by rw [o1.len, n1]) (by rw [o2.len, n2]) (by rw [List.length_append, n1, n2]) (o1.app o2) h
theorem ev_args {fv : Value} {first : List Value} {Q : Value → Shared → Prop} {e : Expr} {es : List Expr} {kws : List Keyword} {ks : List Str} {pos : Pos} {fs gs : List ESem} (I : L2.Inv L.X pins σ H s) (hk : PySem.W.keepIn L.X.K fv = true)
    (ha : PA L.X (e :: es) (tA L (aS fs))) (hkw : PK L.X kws (tA L (aS gs))) (hks : (backToKw pos (keywordEach kws L.X.env)).filterMap (·.1) = ks) (hall : (backToKw pos (keywordEach kws L.X.env)).all (·.1.isSome) = true)
    (hplain : ((backTo pos (starEach (e :: es) L.X.env)).any (·.1) || (backToKw pos (keywordEach kws L.X.env)).any (·.1.isNone)) = false) (he : starEach (e :: es) L.X.env = (false, eval e L.X.env) :: starEach es L.X.env)
    (hl : Γ.length = σ.length) (st : St L (σ.zip Γ ++ T) H) (h : Pst L σ T ((aS (fs ++ gs) Γ).bind k) Kp)
    (hcall : ∀ us1 us2 v1 v2 ds Γ' H' s', L2.Inv L.X pins σ H' s' → Γ'.length = σ.length → us1.length = fs.length → us2.length = gs.length → ds.length = fs.length + gs.length → ArgP L σ Γ' T ds (v1 ++ v2) H' → Vals v1 us1 → Vals v2 us2 → Pst L σ T (k ds Γ') Kp →
      wpAny (model L.X.prog L.X.w) L.X.A (call fv (first ++ us1) (ks.zip us2)) Q L.X.xe s') :
    wpAny (model L.X.prog L.X.w) L.X.A (callWith pos fv first (backTo pos (starEach (e :: es) L.X.env)) (backToKw pos (keywordEach kws L.X.env))) Q L.X.xe s := by
  have h2 := two_args (W := fun v1 v2 H' => ∃ ds Γ', Γ'.length = σ.length ∧ v1.length = fs.length ∧ v2.length = gs.length ∧ ds.length = fs.length + gs.length ∧ ArgP L σ Γ' T ds (v1 ++ v2) H' ∧ Pst L σ T (k ds Γ') Kp) hl st h fun v1 v2 ds Γ' H' a b c d e f => ⟨ds, Γ', a, b, c, d, e, f⟩
  refine PySem.W.callWith_KW (h₀ := L.X.base) I.ok.mod.kin hk hall (thn (ha.run pos pins s σ H _ I h2) fun us1 s1 ⟨v1, H1, I1, r1, h3⟩ => thn (hkw.run pos pins s1 σ H1 _ I1 h3) fun us2 s2 ⟨v2, H2, I2, r2, ds, Γ', a, b, c, d, e, f⟩ => ⟨I2.kIn, ?_⟩) hplain he
  rw [hks]
  exact hcall us1 us2 v1 v2 ds Γ' H2 s2 I2 a (by rw [← r1.length]; exact b) (by rw [← r2.length]; exact c) d e r1 r2 f
theorem ev_args0 {fv : Value} {first : List Value} {Q : Value → Shared → Prop} {kws : List Keyword} {ks : List Str} {pos : Pos} {gs : List ESem} (I : L2.Inv L.X pins σ H s) (hk : PySem.W.keepIn L.X.K fv = true)
    (hkw : PK L.X kws (tA L (aS gs))) (hks : (backToKw pos (keywordEach kws L.X.env)).filterMap (·.1) = ks) (hall : (backToKw pos (keywordEach kws L.X.env)).all (·.1.isSome) = true)
    (hplain : ((backTo pos (starEach [] L.X.env)).any (·.1) || (backToKw pos (keywordEach kws L.X.env)).any (·.1.isNone)) = false)
    (hl : Γ.length = σ.length) (st : St L (σ.zip Γ ++ T) H) (h : Pst L σ T ((aS ([] ++ gs) Γ).bind k) Kp)
    (hcall : ∀ us1 us2 v1 v2 ds Γ' H' s', L2.Inv L.X pins σ H' s' → Γ'.length = σ.length → us1.length = ([] : List ESem).length → us2.length = gs.length → ds.length = ([] : List ESem).length + gs.length → ArgP L σ Γ' T ds (v1 ++ v2) H' → Vals v1 us1 → Vals v2 us2 → Pst L σ T (k ds Γ') Kp →
      wpAny (model L.X.prog L.X.w) L.X.A (call fv (first ++ us1) (ks.zip us2)) Q L.X.xe s') :
    wpAny (model L.X.prog L.X.w) L.X.A (callWith pos fv first (backTo pos (starEach [] L.X.env)) (backToKw pos (keywordEach kws L.X.env))) Q L.X.xe s := by
  have h2 := two_args (fs := []) (W := fun v1 v2 H' => v1 = [] → ∃ ds Γ', Γ'.length = σ.length ∧ v2.length = gs.length ∧ ds.length = gs.length ∧ ArgP L σ Γ' T ds v2 H' ∧ Pst L σ T (k ds Γ') Kp) hl st h fun v1 v2 ds Γ' H' a b c d e f hv => by subst hv; exact ⟨ds, Γ', a, c, by simpa using d, e, f⟩
  obtain ⟨Γ0, T0, a0, b0, h2⟩ := h2
  have h3 := h2 a0 [] H ⟨b0, rfl, fun i d v h => by simp at h⟩
  have h3 : tA L (aS gs) σ H fun v2 H' => ∃ ds Γ', Γ'.length = σ.length ∧ v2.length = gs.length ∧ ds.length = gs.length ∧ ArgP L σ Γ' T ds v2 H' ∧ Pst L σ T (k ds Γ') Kp := by
    obtain ⟨Γ1, T1, a1, b1, h4⟩ := h3
    refine ⟨Γ1, T1, a1, b1, ?_⟩
    cases e : aS gs Γ1 with
    | ok ds Γ' => rw [e] at h4; exact fun x v H' y => h4 x v H' y rfl
    | ex x Γ' => rw [e] at h4; exact h4
    | no => rw [e] at h4; exact h4
  refine PySem.W.callWith_KW0 I.kIn hk hall (thn (hkw.run pos pins s σ H _ I h3) fun us2 s2 ⟨v2, H2, I2, r2, ds, Γ', a, b, c, d, f⟩ => ⟨I2.kIn, ?_⟩) hplain
  rw [hks]
  exact hcall [] us2 [] v2 ds Γ' H2 s2 I2 a rfl (by rw [← r2.length]; exact b) (by simpa using c) d .nil r2 f
end
end Mv
end S16_

section S17_
set_option Elab.async false
set_option linter.all false
set_option maxRecDepth 100000
namespace Mv
open PySem PySem.Spec PyProof.Rows L2

def pick {α : Type} (pi : List Nat) (l : List α) : List α := pi.filterMap fun i => l[i]?
theorem pick_len {α : Type} {l : List α} : ∀ {pi : List Nat}, (∀ i ∈ pi, i < l.length) → (pick pi l).length = pi.length
  | [], _ => rfl
  | i :: pi, h => by
    have e := List.getElem?_eq_getElem (h i List.mem_cons_self)
    show (List.filterMap (fun i => l[i]?) (i :: pi)).length = _
    rw [List.filterMap_cons, e]
    show (pick pi l).length + 1 = pi.length + 1
    rw [pick_len fun j hj => h j (List.mem_cons_of_mem _ hj)]
theorem pick_get {α : Type} {l : List α} : ∀ {pi : List Nat} {j : Nat} {x : α}, (∀ i ∈ pi, i < l.length) → (pick pi l)[j]? = some x → ∃ i, pi[j]? = some i ∧ l[i]? = some x
  | [], j, x, _, h => by simp [pick] at h
  | i :: pi, j, x, hp, h => by
    have e := List.getElem?_eq_getElem (hp i List.mem_cons_self)
    have h : (List.filterMap (fun i => l[i]?) (i :: pi))[j]? = some x := h
    rw [List.filterMap_cons, e] at h
    cases j with
    | zero => simp at h; exact ⟨i, rfl, by rw [e, h]⟩
    | succ j =>
      obtain ⟨i', h1, h2⟩ := pick_get (pi := pi) (j := j) (x := x) (fun j hj => hp j (List.mem_cons_of_mem _ hj)) (by rw [List.getElem?_cons_succ] at h; exact h)
      exact ⟨i', by simpa using h1, h2⟩
theorem vals_at : ∀ {vs : List V} {us : List Value} {i : Nat} {v : V}, Vals vs us → vs[i]? = some v → ∃ u, us[i]? = some u ∧ RelV v u
  | _, _, i, v, .nil, h => by simp at h
  | _, _, 0, v, .cons r t, h => by simp at h; subst h; exact ⟨_, rfl, r⟩
  | _, _, i + 1, v, .cons r t, h => by
    obtain ⟨u, h1, h2⟩ := vals_at (i := i) t (by simpa using h)
    exact ⟨u, by simpa using h1, h2⟩
theorem pick_vals {vs : List V} {us : List Value} (r : Vals vs us) : ∀ {pi : List Nat}, (∀ i ∈ pi, i < vs.length) → Vals (pick pi vs) (pick pi us)
  | [], _ => .nil
  | i :: pi, h => by
    have e := List.getElem?_eq_getElem (h i List.mem_cons_self)
    obtain ⟨u, h1, h2⟩ := vals_at r e
    show Vals (List.filterMap (fun i => vs[i]?) (i :: pi)) (List.filterMap (fun i => us[i]?) (i :: pi))
    rw [List.filterMap_cons, List.filterMap_cons, e, h1]
    exact .cons h2 (pick_vals r fun j hj => h j (List.mem_cons_of_mem _ hj))
/-- what a call's arguments are bound to: n1 by position, those named ks; parameter j gets the argument pi[j] -/
def BindP (K : PySem.W.Frag) (fd : FuncData) (ps : List Str) (n1 : Nat) (ks : List Str) (pi : List Nat) : Prop :=
  ∀ (s : Shared) (us1 us2 : List Value), K.In s.heap → us1.length = n1 → us2.length = ks.length → BindsTo s fd ⟨us1, ks.zip us2⟩ (ps.zip (pick pi (us1 ++ us2)))
def fCK (mo : Option Nat) (F : FSem) (pi : List Nat) (a : ASem) : ESem := fun Γ => (a Γ).bind fun ds Γ' => callS mo F (pick pi ds) Γ'
/-- how a written call's arguments are run: the four forms -/
structure Fo (L : Lx) (pos : Pos) (es : List Expr) (kws : List Keyword) (fs gs : List ESem) (ks : List Str) : Prop where
  go : ∀ {σ : L2.St} {T : List RS} {pins : List (Addr × Obj)} {s : Shared} {Γ : Env} {H : Hp} {fv : Value} {first : List Value} {Q : Value → Shared → Prop} {α : Type} {k : List Opd → Env → Rs α} {Kp : α → Env → Prop}, L2.Inv L.X pins σ H s → PySem.W.keepIn L.X.K fv = true →
    Γ.length = σ.length → St L (σ.zip Γ ++ T) H → Pst L σ T ((aS (fs ++ gs) Γ).bind k) Kp →
    (∀ us1 us2 v1 v2 ds Γ' H' s', L2.Inv L.X pins σ H' s' → Γ'.length = σ.length → us1.length = fs.length → us2.length = gs.length → ds.length = fs.length + gs.length → ArgP L σ Γ' T ds (v1 ++ v2) H' → Vals v1 us1 → Vals v2 us2 → Pst L σ T (k ds Γ') Kp →
      wpAny (model L.X.prog L.X.w) L.X.A (call fv (first ++ us1) (ks.zip us2)) Q L.X.xe s') →
    wpAny (model L.X.prog L.X.w) L.X.A (callWith pos fv first (backTo pos (starEach es L.X.env)) (backToKw pos (keywordEach kws L.X.env))) Q L.X.xe s
section
variable {L : Lx} {e o : Expr} {es : List Expr} {kws : List Keyword} {ks ps : List Str} {p pos apos : Pos} {fs gs : List ESem} {mo : Option Nat} {F : FSem} {k n1 : Nat} {f C : Addr} {fd : FuncData} {x c m : Str} {pi : List Nat}
theorem fo_cons (ha : PA L.X (e :: es) (tA L (aS fs))) (hkw : PK L.X kws (tA L (aS gs))) (hks : (backToKw pos (keywordEach kws L.X.env)).filterMap (·.1) = ks) (hall : (backToKw pos (keywordEach kws L.X.env)).all (·.1.isSome) = true)
    (hplain : ((backTo pos (starEach (e :: es) L.X.env)).any (·.1) || (backToKw pos (keywordEach kws L.X.env)).any (·.1.isNone)) = false) (he : starEach (e :: es) L.X.env = (false, eval e L.X.env) :: starEach es L.X.env) : Fo L pos (e :: es) kws fs gs ks :=
  ⟨fun I hk hl st h hc => ev_args I hk ha hkw hks hall hplain he hl st h hc⟩
theorem fo_nil (hkw : PK L.X kws (tA L (aS gs))) (hks : (backToKw pos (keywordEach kws L.X.env)).filterMap (·.1) = ks) (hall : (backToKw pos (keywordEach kws L.X.env)).all (·.1.isSome) = true)
    (hplain : ((backTo pos (starEach [] L.X.env)).any (·.1) || (backToKw pos (keywordEach kws L.X.env)).any (·.1.isNone)) = false) : Fo L pos [] kws [] gs ks :=
  ⟨fun I hk hl st h hc => ev_args0 I hk hkw hks hall hplain hl st h hc⟩
theorem vals_app : ∀ {v1 v2 : List V} {u1 u2 : List Value}, Vals v1 u1 → Vals v2 u2 → Vals (v1 ++ v2) (u1 ++ u2)
  | _, _, _, _, .nil, h => h
  | _, _, _, _, .cons r t, h => .cons r (vals_app t h)
/-- f(.., k = ..) -/
theorem e_callG (FG : FnG L.X.prog L.X.w L.X.K L.X.mg L.X.base k f fd ps (spF L.X.K L.X.mg mo.toList ps.length F)) (hr : RoomG k L.X.A) (hx : Passes (L2.CX L.X.prog L.X.w) L.X L.E) (hg : Gl L.X x) (hm : L.X.mg x = some (.ref f)) (hk : PySem.W.keepIn L.X.K (.ref f) = true)
    (hb : BindP L.X.K fd ps n1 ks pi) (hm0 : ∀ m, mo = some m → m < ps.length) (fo : Fo L pos es kws fs gs ks) (hn1 : fs.length = n1) (hn2 : gs.length = ks.length) (hpi : ∀ i ∈ pi, i < n1 + ks.length) (hpl : pi.length = ps.length) (hdb : (x == ("__debug__" : Str)) = false) :
    PE L.X (.Call (.Name x p) es kws pos) (tE L (fCK mo F pi (aS (fs ++ gs)))) := by
  refine ⟨fun pins s σ H Q I h => ?_⟩
  obtain ⟨Γ, T, hl, st, h⟩ := h
  refine wpAny_Call_Name_kw (ld_glob I hg hm ?_ hdb)
  refine fo.go (first := []) I hk hl st h fun us1 us2 v1 v2 ds Γ' H' s' I' hl' l1 l2 ld o r1 r2 q => ?_
  have hlt : ∀ {n : Nat}, n = fs.length + gs.length → ∀ i ∈ pi, i < n := fun e i hi => by have := hpi i hi; omega
  have hds := hlt ld
  have hvs := hlt (o.len.trans ld)
  have hus : ∀ i ∈ pi, i < (us1 ++ us2).length := hlt (by rw [List.length_append, l1, l2])
  refine call_core (args := ⟨us1, ks.zip us2⟩) (vs := pick pi (v1 ++ v2)) (us := pick pi (us1 ++ us2)) (ds := pick pi ds) FG hr hx I' hl' o.st (pshs_sub _ _ _) (by rw [pick_len hvs, pick_len hds]) (by rw [pick_len hvs, hpl]) (fun i d v e1 e2 => ?_) (fun m ov v _ e1 e2 => ?_) hm0 (pick_vals (vals_app r1 r2) hvs) (hb s' us1 us2 I'.kIn (l1.trans hn1) (l2.trans hn2)) q
  · obtain ⟨a, h1, h2⟩ := pick_get hds e1
    obtain ⟨b, h3, h4⟩ := pick_get hvs e2
    rw [h1] at h3; cases h3
    exact o.has a d v h2 h4
  · obtain ⟨a, h1, h2⟩ := pick_get hds e1
    obtain ⟨b, h3, h4⟩ := pick_get hvs e2
    rw [h1] at h3; cases h3
    exact pshs_split h2 h4
/-- C(.., k = ..), an own class; pi: where the parameters behind self come from -/
def eNewK (c : Str) (F : FSem) (pi : List Nat) (a : ASem) : ESem := fun Γ => (a Γ).bind fun ds Γ' => newV c F (pick pi ds) Γ'
def BindN (K : PySem.W.Frag) (fd : FuncData) (ps : List Str) (n1 : Nat) (ks : List Str) (pi : List Nat) : Prop :=
  ∀ (s : Shared) (x : Value) (us1 us2 : List Value), K.In s.heap → us1.length = n1 → us2.length = ks.length → BindsTo s fd ⟨x :: us1, ks.zip us2⟩ (ps.zip (x :: pick pi (us1 ++ us2)))
theorem picked {σ : L2.St} {Γ' : Env} {T : List RS} {H' : Hp} {ds : List Opd} {v1 v2 : List V} {u1 u2 : List Value} {qs : List PV} (hds : ∀ i ∈ pi, i < ds.length) (o : ArgP L σ Γ' T ds (v1 ++ v2) H') (r1 : Vals v1 u1) (r2 : Vals v2 u2) (h : allV (pick pi ds) = some qs) :
    RpA L.X.K L.X.mg H' qs (pick pi (v1 ++ v2)) ∧ qs.length = pi.length ∧ Vals (pick pi (v1 ++ v2)) (pick pi (u1 ++ u2)) := by
  have hvs : ∀ i ∈ pi, i < (v1 ++ v2).length := fun i hi => by rw [o.len]; exact hds i hi
  obtain ⟨h1, h2⟩ := allV_rp (σ := σ) (vs := pick pi (v1 ++ v2)) h (by rw [pick_len hvs, pick_len hds]) o.st fun i d v e1 e2 => by
    obtain ⟨a, h1, h2⟩ := pick_get hds e1
    obtain ⟨b, h3, h4⟩ := pick_get hvs e2
    rw [h1] at h3; cases h3
    exact (o.has a d v h2 h4).up fun r hr => List.mem_append_right _ hr
  exact ⟨h1, h2.trans (pick_len hds), pick_vals (vals_app r1 r2) hvs⟩
theorem e_newG (M : MkC L.X.K L.X.mg c C f) (FG : FnG L.X.prog L.X.w L.X.K L.X.mg L.X.base k f fd ps (spF L.X.K L.X.mg [0] ps.length F)) (hr : RoomG (k + 1) L.X.A) (hx : Passes (L2.CX L.X.prog L.X.w) L.X L.E) (hg : Gl L.X c)
    (hb : BindN L.X.K fd ps n1 ks pi) (fo : Fo L pos es kws fs gs ks) (hn1 : fs.length = n1) (hn2 : gs.length = ks.length) (hpi : ∀ i ∈ pi, i < n1 + ks.length) (hpl : pi.length + 1 = ps.length) (hdb : (c == ("__debug__" : Str)) = false) :
    PE L.X (.Call (.Name c p) es kws pos) (tE L (eNewK c F pi (aS (fs ++ gs)))) := by
  refine ⟨fun pins s σ H Q I h => ?_⟩
  obtain ⟨Γ, T, hl, st, h⟩ := h
  refine wpAny_Call_Name_kw (ld_glob I hg M.g ?_ hdb)
  refine fo.go (first := []) I M.m.kp hl st h fun us1 us2 v1 v2 ds Γ' H' s' I' hl' l1 l2 ld o r1 r2 q => ?_
  have hds : ∀ i ∈ pi, i < ds.length := fun i hi => by have := hpi i hi; omega
  unfold newV at q
  cases eq : allV (pick pi ds) with
  | none => rw [eq] at q; exact q.elim
  | some qs =>
    rw [eq] at q
    obtain ⟨h1, h2, h3⟩ := picked hds o r1 r2 eq
    exact new_core (args := ⟨us1, ks.zip us2⟩) M FG hr hx I' hl' o.st (pshs_sub _ _ _) h1 (by omega) h3 (fun s y hK => hb s y us1 us2 hK (l1.trans hn1) (l2.trans hn2)) q
/-! ### methods and properties of locked instances -/
def pvOf (d : Opd) : Option PV :=
  match d with
  | .val p => some p
  | _ => none
def mthR (F : FSem) (qs : List PV) (Γ : Env) : Rs Opd :=
  match F (qs.map .sh) with
  | .ret r [] => resR r Γ
  | .ex e [] => .ex e Γ
  | _ => .no
def isIns (ok : Str → Bool) (m : Str) : PV → Bool
  | .ins c ns _ => ok c && !ns.contains m
  | _ => false
/-- o.m(..), o a locked instance of a class in ok -/
def eMth (ok : Str → Bool) (m : Str) (F : FSem) (pi : List Nat) (g : ESem) (a : ASem) : ESem := fun Γ => (eZ g Γ).bind fun d Γ1 => match d with
  | .val p => if isIns ok m p then (a Γ1).bind fun ds Γ' =>
      match allV (pick pi ds) with
      | some qs => mthR F (p :: qs) Γ'
      | none => .no
    else .no
  | _ => .no
/-- what of the classes a method leans on -/
def MthOk (K : PySem.W.Frag) (mg : Str → Option Value) (ok : Str → Bool) (m : Str) (f : Addr) : Prop := ∀ c C, ok c = true → mg c = some (.ref C) → Cls K C ∧ Meth K C m f
theorem resR_op {σ : L2.St} {T : List RS} {Γ : Env} {r : Slot} {v : V} {H : Hp} {Q : VK} (hl : Γ.length = σ.length) (st : St L ((some v, r) :: (σ.zip Γ ++ T)) H) (h : Pst L σ T (resR r Γ) fun d Γ' => ∀ v H', OpP L σ Γ' T d v H' → Q v H') : Q v H := by
  cases r with
  | un => exact h.elim
  | sh p => exact h hl v H ⟨st.perm List.perm_middle.symm, fun i z => nomatch z⟩
  | ow o => exact h hl v H ⟨st.perm List.perm_middle.symm, fun i z => nomatch z⟩
theorem Pst.wide {L : Lx} {σ : L2.St} {T T1 : List RS} {r : Rs Opd} {Q : VK} (hs : T.Sublist T1) (h : Pst L σ T r fun d Γ' => ∀ v H', OpP L σ Γ' T d v H' → Q v H') : Pst L σ T1 r fun d Γ' => ∀ v H', OpP L σ Γ' T1 d v H' → Q v H' := by
  cases r with
  | ok d Γ' => exact fun hl v H' o => h hl v H' ⟨o.st.sub (List.Sublist.append (List.Sublist.refl _) (psh_mono d v hs)), o.pl⟩
  | ex e Γ' => exact fun C d H' hl st x => h C d H' hl (st.sub (List.Sublist.append (List.Sublist.refl _) hs)) x
  | no => exact h
/-- a def whose parameters are all read, run on values -/
theorem vals_core {σ : L2.St} {T R : List RS} {pins : List (Addr × Obj)} {s : Shared} {Γ : Env} {vs : List V} {us : List Value} {qs : List PV} {H : Hp} {Q : VK} {args : Args} (FG : FnG L.X.prog L.X.w L.X.K L.X.mg L.X.base k f fd ps (spF L.X.K L.X.mg [] ps.length F)) (hr : RoomG k L.X.A) (hx : Passes (L2.CX L.X.prog L.X.w) L.X L.E)
    (I : L2.Inv L.X pins σ H s) (hl : Γ.length = σ.length) (st : St L (σ.zip Γ ++ R) H) (hT : T.Sublist R) (hq : RpA L.X.K L.X.mg H qs vs) (hn : qs.length = ps.length) (rv : Vals vs us) (hbt : BindsTo s fd args (ps.zip us))
    (q : Pst L σ T (mthR F qs Γ) fun d Γ' => ∀ v H', OpP L σ Γ' T d v H' → Q v H') : wpAny (model L.X.prog L.X.w) L.X.A (call (.ref f) args.pos args.kw) (EP L.X pins σ Q) L.X.xe s := by
  let Qm : VK := fun v H2 => ∃ r, F (qs.map .sh) = .ret r [] ∧ St L ((some v, r) :: (σ.zip Γ ++ R)) H2
  let Em : XK := fun C' d H2 => ∃ e, F (qs.map .sh) = .ex e [] ∧ St L (σ.zip Γ ++ R) H2 ∧ ExG L.X.K L.X.mg e C' d H2
  have hsp : spF L.X.K L.X.mg [] ps.length F vs H Qm Em := by
    refine spF_vals st hq hn ?_
    unfold mthR at q
    cases eF : F (qs.map .sh) with
    | no => rw [eF] at q; exact q.elim
    | ret r outs =>
      rw [eF] at q
      cases outs with
      | nil => exact fun v H' s1 => ⟨r, eF, s1⟩
      | cons _ _ => exact q.elim
    | ex e outs =>
      rw [eF] at q
      cases outs with
      | nil => exact fun C' d H' s1 xx => ⟨e, eF, s1, xx⟩
      | cons _ _ => exact q.elim
  refine wpAny_call (codeAny_mono (FG.go L.X.A L.X.stack s H ⟨args.pos, args.kw⟩ us vs Qm Em hr I.env0 hbt rv hsp) fun r s' hq' => ?_)
  cases r with
  | error e =>
    refine Passes.go hx I hq' fun C' d H2 ⟨e', eF, s1, xx⟩ => ?_
    unfold mthR at q
    rw [eF] at q
    exact q C' d H2 hl (s1.sub (List.Sublist.append (List.Sublist.refl _) hT)) xx
  | ok fl =>
    cases fl with
    | ret u =>
      obtain ⟨v, H', I3, rv', r, eF, s1⟩ := I.after hq'
      unfold mthR at q
      rw [eF] at q
      exact ⟨v, H', I3, rv', resR_op hl (s1.sub ((List.Sublist.append (List.Sublist.refl _) hT).cons_cons _)) q⟩
    | next => exact False.elim hq'
    | brk => exact False.elim hq'
    | cont => exact False.elim hq'
theorem getmeth_frz {X : Cx} {pins : List (Addr × Obj)} {σ : L2.St} {H : Hp} {s : Shared} {a C dx g : Addr} {fs : List (Str × V)} {o : Obj} {m : Str} {pl : Sem Bool} {A : Around} {E : Value → Shared → Prop} {Q : Value × List Value → Shared → Prop} (I : L2.Inv X pins σ H s) (e : H a = some (.frz o (.ins C dx fs))) (c : Cls X.K C) (k : Meth X.K C m g) (l : fs.lookup m = none)
    (h : Q (.ref g, [.ref a]) s) : wpAny (model X.prog X.w) A (getMethod (.ref a) m pl) Q E s := by
  obtain ⟨mA, O, r⟩ := ins_frz I e
  have hn : mA m = none := RelO.none_of (by rw [← l]; exact r m)
  exact get_meth I.kIn O (c.get m) k.at_ k.fn hn h
theorem lookup_none {m : Str} : ∀ {fs : List (Str × V)}, (fs.map (·.1)).contains m = false → fs.lookup m = none
  | [], _ => rfl
  | (g, x) :: fs, h => by
    have h : ((g :: fs.map (·.1)).contains m) = false := h
    rw [List.contains_cons, Bool.or_eq_false_iff] at h
    show List.lookup m ((g, x) :: fs) = none
    simp only [List.lookup, h.1]
    exact lookup_none h.2
theorem e_mth {g : ESem} {ok : Str → Bool} {pl : Sem Bool} (hok : MthOk L.X.K L.X.mg ok m f) (FG : FnG L.X.prog L.X.w L.X.K L.X.mg L.X.base k f fd ps (spF L.X.K L.X.mg [] ps.length F)) (hr : RoomG k L.X.A) (hx : Passes (L2.CX L.X.prog L.X.w) L.X L.E) (he : PE L.X o (tE L g))
    (hb : BindN L.X.K fd ps n1 ks pi) (fo : Fo L pos es kws fs gs ks) (hn1 : fs.length = n1) (hn2 : gs.length = ks.length) (hpi : ∀ i ∈ pi, i < n1 + ks.length) (hpl : pi.length + 1 = ps.length)
    (ht : eval (.Call (.Attribute o m apos) es kws pos) L.X.env = (do
      let ov ← eval o L.X.env
      standAt apos.atName
      let (f, first) ← holding [ov] (getMethod ov m pl)
      callWith pos f first (backTo pos (starEach es L.X.env)) (backToKw pos (keywordEach kws L.X.env)))) :
    PE L.X (.Call (.Attribute o m apos) es kws pos) (tE L (eMth ok m F pi g (aS (fs ++ gs)))) := by
  refine ⟨fun pins s σ H Q I h => ?_⟩
  obtain ⟨Γ, T, hl, st, h⟩ := h
  have h2 := tE_bind (f := eZ g) (R := fun x H1 => ∃ p Γ1, Γ1.length = σ.length ∧ OpP L σ Γ1 T (.val p) x H1 ∧ isIns ok m p = true ∧ Pst L σ T ((aS (fs ++ gs) Γ1).bind fun ds Γ' =>
      match allV (pick pi ds) with
      | some qs => mthR F (p :: qs) Γ'
      | none => .no) fun d Γ' => ∀ v H', OpP L σ Γ' T d v H' → Q v H') hl (List.Sublist.refl T) st h fun d Γ1 x H1 hl1 o1 h1 => by
    cases d with
    | tmp o => exact h1.elim
    | plc i => exact h1.elim
    | val p =>
      simp only at h1
      split at h1
      · rename_i hh
        exact ⟨p, Γ1, hl1, o1, hh, h1⟩
      · exact h1.elim
  refine PySem.W.methodCall_KW (pl := pl) (thn ((e_z he).run pins s σ H _ I h2) fun u s1 ⟨x, H1, I1, rx, p, Γ1, hl1, o1, hi, h3⟩ => ?_) ht
  cases p with
  | ins c ns qs0 =>
    have hi : (ok c && !ns.contains m) = true := hi
    rw [Bool.and_eq_true] at hi
    obtain ⟨x', ex, a, C, dx, fs', ob, ex2, h0, h4, h5, h6⟩ := o1.st.rel (some x, .sh (.ins c ns qs0)) (List.mem_append_right _ List.mem_cons_self)
    cases ex
    subst ex2
    obtain rfl : u = Value.ref a := rx
    obtain ⟨k1, k2⟩ := hok c C hi.1 h0
    refine getmeth_frz I1 h4 k1 k2 (lookup_none (by rw [h5]; simpa using hi.2)) ?_
    refine fo.go (first := [.ref a]) I1 k2.kp hl1 o1.st (Pst.wide (psh_sub (.val (.ins c ns qs0)) (.ref a) T) h3) fun us1 us2 v1 v2 ds Γ' H' s' I' hl' l1 l2 ld o2 r1 r2 q => ?_
    have hds : ∀ i ∈ pi, i < ds.length := fun i hi => by have := hpi i hi; omega
    cases eq : allV (pick pi ds) with
    | none => rw [eq] at q; exact q.elim
    | some qs =>
      rw [eq] at q
      obtain ⟨h7, h8, h9⟩ := picked hds o2 r1 r2 eq
      obtain ⟨x', ex, rx'⟩ := o2.st.rel (some (.ref a), .sh (.ins c ns qs0)) (List.mem_append_right _ ((pshs_sub _ _ _).subset List.mem_cons_self))
      cases ex
      exact vals_core (args := ⟨.ref a :: us1, ks.zip us2⟩) (vs := V.ref a :: pick pi (v1 ++ v2)) (us := Value.ref a :: pick pi (us1 ++ us2)) (qs := PV.ins c ns qs0 :: qs) FG hr hx I' hl' o2.st (pshs_sub _ _ _) ⟨V.ref a, _, rfl, rx', h7⟩ (by rw [List.length_cons]; omega) (.cons rfl h9) (hb s' (.ref a) us1 us2 I'.kIn (l1.trans hn1) (l2.trans hn2)) q
  | _ => exact absurd hi (by simp [isIns])
/-- o.p, a property of a locked instance -/
def PrpOk (K : PySem.W.Frag) (mg : Str → Option Value) (ok : Str → Bool) (m : Str) (f : Addr) : Prop := ∀ c C, ok c = true → mg c = some (.ref C) → Cls K C ∧ ∃ p, PropOf K C m p f
def mthN (F : FSem) (qs : List PV) (Γ : Env) : Rs Opd :=
  match F (qs.map .sh) with
  | .ret r [] => resR r Γ
  | _ => .no
def isCls (ok : Str → Bool) : PV → Bool
  | .ins c _ _ => ok c
  | _ => false
def ePrp (ok : Str → Bool) (F : FSem) (g : ESem) : ESem := fun Γ => (eZ g Γ).bind fun d Γ1 => match d with
  | .val p => if isCls ok p then mthN F [p] Γ1 else .no
  | _ => .no
theorem e_prp {g : ESem} {ok : Str → Bool} (hok : PrpOk L.X.K L.X.mg ok m f) (FG : FnG L.X.prog L.X.w L.X.K L.X.mg L.X.base k f fd ps (spF L.X.K L.X.mg [] ps.length F)) (hr : RoomG (k + 1) L.X.A) (hps : ps.length = 1) (he : PE L.X o (tE L g)) (hb : Binds L.X.K fd ps [])
    (hab : attributeBase o m L.X.env (eval o L.X.env) = eval o L.X.env) : PE L.X (.Attribute o m pos) (tE L (ePrp ok F g)) := by
  refine ⟨fun pins s σ H Q I h => ?_⟩
  obtain ⟨Γ, T, hl, st, h⟩ := h
  have h2 := tE_bind (f := eZ g) (R := fun x H1 => ∃ p Γ1, Γ1.length = σ.length ∧ OpP L σ Γ1 T (.val p) x H1 ∧ isCls ok p = true ∧ Pst L σ T (mthN F [p] Γ1) fun d Γ' => ∀ v H', OpP L σ Γ' T d v H' → Q v H') hl (List.Sublist.refl T) st h fun d Γ1 x H1 hl1 o1 h1 => by
    cases d with
    | tmp o => exact h1.elim
    | plc i => exact h1.elim
    | val p =>
      simp only at h1
      split at h1
      · rename_i hh
        exact ⟨p, Γ1, hl1, o1, hh, h1⟩
      · exact h1.elim
  refine attr_of hab (thn ((e_z he).run pins s σ H _ I h2) fun u s1 ⟨x, H1, I1, rx, p, Γ1, hl1, o1, hi, q⟩ => ?_)
  cases p with
  | ins c ns qs0 =>
    have hi : ok c = true := hi
    obtain ⟨x', ex, rx0⟩ := o1.st.rel (some x, .sh (.ins c ns qs0)) (List.mem_append_right _ List.mem_cons_self)
    cases ex
    obtain ⟨a, C, dx, fs', ob, ex2, h0, h4, h5, h6⟩ := id rx0
    subst ex2
    obtain rfl : u = Value.ref a := rx
    obtain ⟨k1, pp, hp⟩ := hok c C hi h0
    obtain ⟨mA, O, r0⟩ := ins_frz I1 h4
    obtain ⟨od, J, _⟩ := O.look
    obtain ⟨rest, hrec⟩ := hp.rec_
    have I2 := I1.tok (s1.toks + 1)
    have hc : (PySem.W.clsIn L.X.K C).isSome = true := by
      obtain ⟨cd, hc, _⟩ := PySem.W.any_some k1.hd
      rw [hc]
      rfl
    let Qm : VK := fun v H2 => ∃ r, F [.sh (.ins c ns qs0)] = .ret r [] ∧ St L ((some v, r) :: (σ.zip Γ1 ++ ((some (.ref a), .sh (.ins c ns qs0)) :: T))) H2
    have hsp : spF L.X.K L.X.mg [] ps.length F [.ref a] H1 Qm (fun _ _ _ => False) := by
      refine spF_vals (qs := [.ins c ns qs0]) o1.st ⟨_, [], rfl, rx0, rfl⟩ hps.symm ?_
      unfold mthN at q
      have em : [PV.ins c ns qs0].map Slot.sh = [Slot.sh (.ins c ns qs0)] := rfl
      cases eF : F ([PV.ins c ns qs0].map Slot.sh) with
      | no => rw [eF] at q; exact q.elim
      | ret r outs =>
        rw [eF] at q
        cases outs with
        | nil => exact fun v H' s1 => ⟨r, eF, s1⟩
        | cons _ _ => exact q.elim
      | ex e outs => rw [eF] at q; exact q.elim
    have hbt := hb { s1 with toks := s1.toks + 1 } [.ref a] I2.kIn (by rw [List.append_nil, hps]; rfl)
    rw [List.append_nil] at hbt
    refine PySem.W.get_bind I1.kIn J (PySem.W.plainGet_of (k1.get m)).1 (PySem.W.findObj_data hc hp.at_ hp.get hp.tak) (PySem.W.plainGet_of (k1.get m)).2 (wpAny_call (PySem.W.prop_get (s := { s1 with toks := s1.toks + 1 }) I1.kIn hrec ?_))
    refine codeAny_mono (FG.go L.X.A.in1 L.X.stack { s1 with toks := s1.toks + 1 } H1 ⟨[.ref a], []⟩ [.ref a] [.ref a] Qm _ ⟨hr.r.in1, hr.g⟩ I2.env0.in1 hbt (.cons rfl .nil) hsp) fun r s' hq => ?_
    cases r with
    | error er =>
      obtain ⟨_, _, _, _, _, _, _, _, _, _, _, _, h8⟩ := hq
      exact h8.elim
    | ok fl =>
      cases fl with
      | ret u =>
        obtain ⟨v, H', I3, rv, r, eF, s3⟩ := I2.after hq
        show wpAny _ _ (handedOut u) _ _ _
        rw [PySem.W.handedOut_of (handed_of rv)]
        unfold mthN at q
        rw [show F ([PV.ins c ns qs0].map Slot.sh) = .ret r [] from eF] at q
        exact wpAny_pure ⟨v, H', I3, rv, resR_op hl1 (s3.sub ((List.Sublist.append (List.Sublist.refl _) (List.sublist_cons_self _ _)).cons_cons _)) q⟩
      | next => exact False.elim hq
      | brk => exact False.elim hq
      | cont => exact False.elim hq
  | _ => exact absurd hi (by simp [isCls])
end
end Mv
end S17_

section S18_
set_option Elab.async false
set_option linter.all false
set_option maxRecDepth 100000
namespace Mv
open PySem PySem.Spec PyProof.Rows L2

/-! ### what the model's rules do not reach has the meaning «no» -/
section
variable {L : Lx}
def noE : ESem := fun _ => .no
def noT : TSem := fun _ => .no
def noS : SSem := fun _ => .no
def noI : ISem := fun _ => .no
def noG : GSem := fun _ _ => none
theorem e_no {e : Expr} : PE L.X e (tE L noE) := ⟨fun pins s σ H Q I q => by obtain ⟨Γ, T, _, _, q⟩ := q; exact q.elim⟩
theorem t_no {e : Expr} : PT L.X e (tT L noT) := ⟨fun pins s σ H Q I q => by obtain ⟨Γ, T, _, _, q⟩ := q; exact q.elim⟩
theorem s_no {st : Stmt} : PS L.X st (tS L noS) := ⟨fun pins s σ H D I q => by obtain ⟨Γ, T, _, _, _, q⟩ := q; exact q.elim⟩
theorem ss_no {st : List Stmt} : PSs L.X st (tS L noS) := ⟨fun pins s σ H D I q => by obtain ⟨Γ, T, _, _, _, q⟩ := q; exact q.elim⟩
theorem i_no {tg e : Expr} : PI L.X tg e (tI L noI) := ⟨fun pins s σ H R I q => by obtain ⟨Γ, T, _, _, q⟩ := q; exact q.elim⟩
theorem g_no {e : Expr} : PG L.X e (tG L noG) := ⟨fun pins s σ H v u Q I r q => by obtain ⟨Γ, R, p, _, _, _, Γ', e, _⟩ := q; cases e⟩
end

/-! ### a new object that a call's parameter reads: given up at once -/
def tmpZ (d : Opd) (Γ : Env) : Rs Opd :=
  match d with
  | .tmp o => .ok (.val o.pv) Γ
  | d => .ok d Γ
def eT (f : ESem) : ESem := fun Γ => (f Γ).bind tmpZ
theorem e_t {L : Lx} {e : Expr} {f : ESem} (h : PE L.X e (tE L f)) : PE L.X e (tE L (eT f)) := peI (pe_give h) fun σ H Q q => by
  obtain ⟨Γ, T, hl, st, q⟩ := q
  refine tE_bind hl (List.Sublist.refl T) st q fun d Γ1 x H1 hl1 o1 h1 => ?_
  cases d with
  | tmp o => exact fz_go (d := .tmp o) hl1 o1 h1
  | val p => exact .inl (h1 hl1 x H1 o1)
  | plc i => exact .inl (h1 hl1 x H1 o1)

/-! ### a def of the text -/
theorem nm {ms : List Nat} {vs : List V} {i : Nat} (h : ms.contains i = false) : i ∉ (mAd ms vs).map (·.1) := fun z => by
  have := mAd_fst z
  rw [List.contains_eq_mem, decide_eq_false_iff_not] at h
  exact h this
section
variable {P : Program} {w : World} {K : PySem.W.Frag} {mg : Str → Option Value} {base : Heap}
theorem okG {x qual : Str} {st : Stmt} {f : Addr} {fd : FuncData} {N ps : List Str} {ms : List Nat} {b : SSem} {k : Nat} (F : Fun K x qual st f fd) (S : FnScope N ps (defScope st))
    (hbody : ∀ (cdv : Value) (A : Around) (outer : List PySem.Env) (s : Shared) (H : Hp) (vs : List V) (E : XK), RoomG k (A.deeper (envOfC qual (defScope st) s.heap.objs.size f cdv)) →
      PSs (lxOf P w K mg base N qual (defScope st) f cdv A outer s H E ms vs).X (defBody st) (tS (lxOf P w K mg base N qual (defScope st) f cdv A outer s H E ms vs) b)) :
    FnG P w K mg base (k + 1) f fd ps (spF K mg ms ps.length (fnS N.length ms b)) := by
  obtain ⟨oc, od, kV, doc, pm, an, cdv, ct, osl, rfl, lk, hcd⟩ := F.ex
  exact fnG_of lk hcd S fun A outer s H vs E hr _ => hbody cdv A outer s H vs E hr
/-- how calls by position and by name bind -/
theorem bindP {x qual : Str} {st : Stmt} {f : Addr} {fd : FuncData} {ps ks : List Str} {n1 : Nat} {pi : List Nat} (F : Fun K x qual st f fd)
    (h : ∀ (kV doc pm : Value) (an : Option Addr) (cdv ct : Value) (us1 us2 : List Value), us1.length = n1 → us2.length = ks.length → bindArgs (PySem.W.fnOf x qual (defArgs st) (defBody st) (defScope st) .none kV doc pm an cdv ct) ⟨us1, ks.zip us2⟩ = pure (ps.zip (pick pi (us1 ++ us2)))) : BindP K fd ps n1 ks pi := by
  obtain ⟨oc, od, kV, doc, pm, an, cdv, ct, osl, rfl, lk, hcd⟩ := F.ex
  exact fun s us1 us2 _ h1 h2 => .of_eq (h kV doc pm an cdv ct us1 us2 h1 h2)
theorem bindN {x qual : Str} {st : Stmt} {f : Addr} {fd : FuncData} {ps ks : List Str} {n1 : Nat} {pi : List Nat} (F : Fun K x qual st f fd)
    (h : ∀ (kV doc pm : Value) (an : Option Addr) (cdv ct : Value) (y : Value) (us1 us2 : List Value), us1.length = n1 → us2.length = ks.length → bindArgs (PySem.W.fnOf x qual (defArgs st) (defBody st) (defScope st) .none kV doc pm an cdv ct) ⟨y :: us1, ks.zip us2⟩ = pure (ps.zip (y :: pick pi (us1 ++ us2)))) : BindN K fd ps n1 ks pi := by
  obtain ⟨oc, od, kV, doc, pm, an, cdv, ct, osl, rfl, lk, hcd⟩ := F.ex
  exact fun s y us1 us2 _ h1 h2 => .of_eq (h kV doc pm an cdv ct y us1 us2 h1 h2)
end

/-! ### the law's end -/
theorem rpA_ints {K : PySem.W.Frag} {mg : Str → Option Value} {H : Hp} : ∀ ns : List Int, RpA K mg H (ns.map PV.int) (ns.map V.int)
  | [] => rfl
  | n :: ns => ⟨.int n, ns.map V.int, rfl, rfl, rpA_ints ns⟩
theorem law_callG {P : Program} {w : World} {K : PySem.W.Frag} {mg mb : Str → Option Value} {k : Nat} {fa a : Addr} {fd : FuncData} {x : Str} {F : FSem} {s₁ : Shared} {vs : List Value} {ns : List Int}
    (KX : K.In s₁.heap) (hns : s₁.heap.Ns mainGlobals mg) (hb : s₁.heap.Ns builtinsNs mb) (hbb : ∀ x : Str, x ≠ "__name__" → mb x = bootBuiltins x) (hlim : s₁.heap.NoLimit) (hg : s₁.gens = #[])
    (ha : s₁.heap.get? a = some { cls := .type "list", data := .seq vs.toArray }) (hi : IntsAre vs ns) (hl : ns.length ≤ sizeLine) (hr : RoomG k callerA)
    (FG : ∀ base : Heap, K.In base → base.Ns mainGlobals mg → FnG P w K mg base k fa fd [x] (spF K mg [] 1 F)) (hbind : ∀ (s : Shared) (u : Value), BindsTo s fd ⟨[u], []⟩ [(x, u)])
    (hF : F [.sh (.lst (ns.map PV.int))] = .ret (.sh (.bl true)) []) :
    codeAny (model P w) callerA (.call (.ref fa) ⟨[.ref a], []⟩) (fun r s' => r = .ok (.ret (.bool true)) ∧ OldK s₁.heap s'.heap ∧ s'.os = s₁.os ∧ AllBare s'.gens) s₁ := by
  -- the script, locked, unless the module itself holds it
  obtain ⟨ob, eob⟩ : ∃ ob : Obj, ob = { cls := .type "list", data := .seq vs.toArray } := ⟨_, rfl⟩
  let u0 : HO := .frz ob (.lst (ns.map V.int))
  let H : Hp := fun b => if K.lookup a = none ∧ b = a then some u0 else none
  have at_ : ∀ b u, H b = some u → K.lookup a = none ∧ b = a ∧ u = u0 := fun b u e => by
    by_cases c : K.lookup a = none ∧ b = a
    · have e' := (if_pos c : H b = some u0).symm.trans e
      cases e'
      exact ⟨c.1, c.2, rfl⟩
    · have e' := (if_neg c : H b = none).symm.trans e
      cases e'
  have off : ∀ b, (K.lookup a = none → b ≠ a) → H b = none := fun b h => if_neg fun c => h c.1 c.2
  have ok0 : HOk P w H s₁.heap := fun b u e => by
    obtain ⟨_, rfl, rfl⟩ := at_ b u e
    subst eob
    exact ⟨ha, by rw [List.length_map]; exact hl, vs, _, vals_ints hi, ha⟩
  have fz : FzL K H a (ns.map V.int) := by
    cases e : K.lookup a with
    | none => exact .inl ⟨ob, if_pos ⟨e, rfl⟩⟩
    | some o =>
      have e2 := KX a o e
      rw [ha] at e2
      cases e2
      exact .inr ⟨vs.toArray, _, e, by rw [List.size_toArray, hi.length]; exact hl, by simpa using vals_ints hi⟩
  -- the base: all but the script
  have up : ∀ {b : Addr} {o : Obj}, s₁.heap.get? b = some o → H b = none → (hidT s₁.heap H).get? b = some o := fun e n => hidT_get e n
  have dict : ∀ {b : Addr} {m : Str → Option Value}, s₁.heap.Ns b m → (hidT s₁.heap H).Ns b m := fun {b m} ⟨o, es, ep, e, d, r⟩ => ⟨o, es, ep, up e (off b fun _ z => by
    subst z
    rw [ha] at e; cases e
    exact nomatch (show Data.seq vs.toArray _ = Data.dict es ep from d)), d, r⟩
  have hK : K.In (hidT s₁.heap H) := fun b o e => up (KX b o e) (off b fun n z => by subst z; rw [n] at e; cases e)
  have e0 : Env0 P w K mg (hidT s₁.heap H) callerA [] s₁ H :=
    ⟨rfl, ⟨hK, dict hns, ⟨mb, dict hb, hbb⟩, let ⟨mc, h1, h2⟩ := hlim; ⟨mc, dict h1, h2⟩⟩, fun b o e => of_hidT e, Nat.le_of_eq (hidT_size _ _), trivial, fun b hb => absurd (show b ∈ ([] : List Addr) from hb) (by simp), ok0, .of_eq hg⟩
  let Q : VK := fun v _ => v = .bl true
  have hsp : spF K mg [] 1 F [.ref a] H Q (fun _ _ _ => False) := by
    refine ⟨rfl, [.sh (.lst (ns.map PV.int))], rfl, fun r hr' => ?_, ?_, fun i o h => ?_, fun i h => (nomatch h), ?_⟩
    · have hr' : r ∈ [((some (V.ref a), Slot.sh (.lst (ns.map PV.int))) : RS)] := hr'
      rw [List.mem_singleton.mp hr']
      exact ⟨.ref a, rfl, a, ns.map V.int, rfl, fz, rpA_ints ns⟩
    · show (own [((some (V.ref a), Slot.sh (.lst (ns.map PV.int))) : RS)]).Nodup
      rw [own_sh]; exact List.nodup_nil
    · cases i with
      | zero => simp at h
      | succ i => simp at h
    · rw [hF]
      intro v H' A
      obtain ⟨y, ey, q⟩ := A.rel (some v, .sh (.bl true)) (List.mem_append_right _ List.mem_cons_self)
      cases ey
      exact q
  refine codeAny_mono ((FG _ hK (dict hns)).go callerA [] s₁ H ⟨[.ref a], []⟩ [.ref a] [.ref a] Q _ hr e0 (hbind s₁ (.ref a)) (.cons rfl .nil) hsp) fun r s' h => ?_
  cases r with
  | error e =>
    obtain ⟨_, _, _, _, _, _, _, _, _, _, _, _, z⟩ := h
    exact z.elim
  | ok fl =>
    cases fl with
    | next => exact False.elim h
    | brk => exact False.elim h
    | cont => exact False.elim h
    | ret u =>
      obtain ⟨v, H', os, bare, un, hok', r', q⟩ := h
      obtain rfl : v = V.bl true := q
      obtain rfl : u = Value.bool true := r'
      refine ⟨rfl, OldK.of_keep fun b o e => ?_, os, bare⟩
      cases q : H b with
      | none => exact un.keep b o e q (by intro z; exact absurd (show b ∈ ([] : List Addr) from z) (by simp)) (by simp)
      | some u =>
        obtain ⟨_, rfl, rfl⟩ := at_ b u q
        obtain ⟨e1, _⟩ := hok' b _ (un.frzs b ob _ q)
        subst eob
        rw [ha] at e; cases e
        exact e1
theorem walkG {l : PySem.W.OpenLaw} {n k : Nat} {q : Program} {loose : List Str} {XP : (Str → Option Value) → Heap → Prop} {YP : World → Heap → Prop} {d : DefRec} {K : Params → PySem.W.Frag} {F : FSem} {x : Str}
    (hn : l.most = some n) (hn2 : n ≤ sizeLine) (hdf : d.params.defaults = []) (hr : RoomG k callerA) (hY : ∀ (w : World) (h : Heap), YP w h → (K w.params).In h)
    (hF : ∀ ns : List Int, ns.length ≤ n → F [.sh (.lst (ns.map PV.int))] = .ret (.sh (.bl true)) [])
    (hd : ∀ (w : World) (mg : Str → Option Value) (fa : Addr) (h : Heap), (K w.params).In h → h.Ns mainGlobals mg → mg d.name = some (.ref fa) →
      ∃ fd : FuncData, (∀ (s : Shared) (u : Value), BindsTo s fd ⟨[u], []⟩ [(x, u)]) ∧ ∀ base : Heap, (K w.params).In base → base.Ns mainGlobals mg → FnG l.prog w (K w.params) mg base k fa fd [x] (spF (K w.params) mg [] 1 F)) :
    PySem.W.WalkO q loose XP YP l.row.toRowW d [] (fun f vs => PySem.call f vs) := by
  refine Att.attach_call hn hdf fun w s₀ s₁ mg mb fa o pm cd doc a vs ns G Y ho hd' hcd hmg hobj hints hlen hg => ?_
  have KX := hY w _ Y
  obtain ⟨fd, hb, hG⟩ := hd w mg fa _ KX G.T.g hmg
  exact law_callG KX G.T.g G.T.b G.T.builtins G.T.nolimit hg hobj hints (Nat.le_trans hlen hn2) hr hG hb (hF ns hlen)
end Mv
end S18_

section S19_
set_option Elab.async false
set_option linter.all false
set_option maxRecDepth 100000
namespace Mv
open PySem PySem.Spec PyProof.Rows L2

/-! ### operators on sequences -/
theorem OpR.or {X : Cx} {f : Value → Value → Sem Value} {r r' : R2} (h : OpR X f r) (h' : OpR X f r') : OpR X f (fun x y H Q => r x y H Q ∨ r' x y H Q) := fun pins s σ H x y v u Q I rx ry q => by
  rcases q with q | q
  · exact h pins s σ H x y v u Q I rx ry q
  · exact h' pins s σ H x y v u Q I rx ry q
/-- a list as it lies: one's own, locked, the module's -/
def LsR (K : PySem.W.Frag) (H : Hp) (a : Addr) (xs : List V) : Prop := H a = some (.lst xs) ∨ FzL K H a xs
theorem LsR.at {X : Cx} {pins : List (Addr × Obj)} {σ : L2.St} {H : Hp} {s : Shared} {a : Addr} {xs : List V} (I : L2.Inv X pins σ H s) (h : LsR X.K H a xs) : ∃ (its : List Value) (n : Nat), Vals xs its ∧ s.heap.get? a = some { cls := .type "list", data := .seq its.toArray n } ∧ xs.length ≤ sizeLine := by
  rcases h with h | ⟨o, h⟩ | ⟨its, n, h1, h2, h3⟩
  · obtain ⟨z, its, n, r, e⟩ := (show ObjOk X.prog X.w H s.heap a (.lst xs) from I.hok a _ h)
    exact ⟨its, n, r, e, z⟩
  · obtain ⟨e0, z, its, n, r, e⟩ := (show ObjOk X.prog X.w H s.heap a (.frz o (.lst xs)) from I.hok a _ h)
    exact ⟨its, n, r, e, z⟩
  · have l := h3.length
    exact ⟨its.toList, n, h3, by simpa using I.kIn a _ h1, by rw [l]; simpa using h2⟩
theorem rv_ls {K : PySem.W.Frag} {mg : Str → Option Value} {H : Hp} {ps : List PV} {x : V} (h : RpV K mg H (.lst ps) x) : ∃ a xs, x = .ref a ∧ LsR K H a xs ∧ RpA K mg H ps xs := by
  rcases h with ⟨a, xs, e, h1, h2⟩ | ⟨a, o, e1, e, h⟩
  · exact ⟨a, xs, e, .inr h1, h2⟩
  · cases o with
    | lst qs =>
      cases e
      obtain ⟨xs, h1, h2⟩ := h
      exact ⟨a, xs, e1, .inl h1, h2⟩
    | _ => cases e
def rCatM (K : PySem.W.Frag) : R2 := fun x y H Q => ∃ l b xs zs, x = .ref l ∧ y = .ref b ∧ LsR K H l xs ∧ LsR K H b zs ∧ xs.length + zs.length ≤ sizeLine ∧ ∀ p, H p = none → Q (.ref p) (upd H p (.lst (xs ++ zs)))
theorem op_catM {X : Cx} : OpR X (binaryOp .Add) (rCatM X.K) := by
  intro pins s σ H x y v u Q I rx ry h
  obtain ⟨l, b, xs, zs, rfl, rfl, hH, hB, hz, q⟩ := h
  obtain rfl : v = Value.ref l := rx
  obtain rfl : u = Value.ref b := ry
  obtain ⟨its, n, r, e, _⟩ := hH.at I
  obtain ⟨its2, n2, r2, e2, _⟩ := hB.at I
  refine PySem.P.add_list e e2 ?_ (by rw [List.size_toArray, List.size_toArray, ← r.length, ← r2.length]; exact hz)
  have ea : its.toArray ++ its2.toArray = (its ++ its2).toArray := by simp
  rw [ea]
  exact ⟨.ref _, _, I.lnew (t' := s.toks) (r.append r2) (by rw [List.length_append]; exact hz), rfl, q _ I.fresh⟩
def rRepM (K : PySem.W.Frag) : R2 := fun x y H Q => ∃ l k xs, x = .ref l ∧ y = .int k ∧ LsR K H l xs ∧ -(2 ^ 63) ≤ k ∧ k < 2 ^ 63 ∧ xs.length * k.toNat ≤ sizeLine ∧
  ∀ p, H p = none → Q (.ref p) (upd H p (.lst (List.replicate k.toNat xs).flatten))
theorem foldl_reps (its : List Value) : ∀ (m : Nat) (acc : List Value), List.foldl (fun x1 x2 => x1 ++ x2) acc.toArray (List.replicate m its.toArray) = (acc ++ (List.replicate m its).flatten).toArray
  | 0, acc => by simp
  | m + 1, acc => by
    have e : acc.toArray ++ its.toArray = (acc ++ its).toArray := by simp
    rw [List.replicate_succ, List.foldl_cons, e, foldl_reps its m (acc ++ its), List.replicate_succ, List.flatten_cons, List.append_assoc]
theorem op_repM {X : Cx} : OpR X (binaryOp .Mult) (rRepM X.K) := by
  intro pins s σ H x y v u Q I rx ry h
  obtain ⟨l, k, xs, rfl, rfl, hH, h1, h2, hz, q⟩ := h
  obtain rfl : v = Value.ref l := rx
  obtain ⟨t, rfl⟩ := ry
  obtain ⟨its, n, r, e, _⟩ := hH.at I
  have hlen : its.toArray.size * k.toNat ≤ sizeLine := by rw [List.size_toArray, ← r.length]; exact hz
  have hcap : ¬ its.toArray.size * k.toNat > (2 ^ 63 - 1) / 8 := by
    have : (sizeLine : Nat) ≤ (2 ^ 63 - 1) / 8 := by decide
    omega
  have hfit : ¬ (!Builtin.List.listFitsIndex k) = true := by
    rw [fitsIndex_both h1 h2]
    exact Bool.false_ne_true
  have hlong : ¬ Builtin.List.listTooLong (its.toArray.size * k.toNat) = true := by
    rw [notLongL hlen]
    exact Bool.false_ne_true
  have hnew : List.foldl (fun x1 x2 => x1 ++ x2) #[] (List.replicate (if its.toArray.isEmpty = true then 0 else k.toNat) its.toArray) = (List.replicate k.toNat its).flatten.toArray := by
    have f0 : ∀ m : Nat, List.foldl (fun x1 x2 => x1 ++ x2) #[] (List.replicate m its.toArray) = (List.replicate m its).flatten.toArray := fun m => by
      have := foldl_reps its m []
      rw [List.nil_append] at this
      exact this
    rw [f0]
    cases its with
    | nil => simp
    | cons a r' => rw [if_neg (by simp)]
  refine wpAny_binaryOp_repeat_ref (T := "list") (U := "int") (by decide) ⟨_, e, rfl⟩ (fun s' => typeIs_int s' k t) noFill_list_mul F.fills_int_mul F.slot_int_rmul repeat_list F.slot_int_index.lookup
    (call_meets F.slot_int_rmul (typeIs_int s k t) F.entry_int_rmul (F.args_int_rmul_2 _ _) (int___rmul___int_list k t l its.toArray n)
      ⟨e, rfl, ⟨_, e, rfl⟩, call_meets F.slot_list_mul ⟨_, e, rfl⟩ F.entry_list_mul (F.args_list_mul_2 _ _) (AutoListH.list___mul___list_int_3 l its.toArray n k t hfit hcap hlong) ⟨e, ?_⟩⟩)
  rw [hnew]
  exact ⟨.ref _, _, I.lnew (t' := s.toks) (r.rep k.toNat) (by rw [PyProof.Rows.lm_len_rep_flat, Nat.mul_comm]; exact hz), rfl, q _ I.fresh⟩

def catL : PV → PV → Option Rv
  | .lst ps, .lst qs => if ps.length + qs.length ≤ sizeLine then some (.tmp (.lst (ps ++ qs))) else none
  | _, _ => none
def catTp : PV → PV → Option Rv
  | .tup ps, .tup qs => if ps.length + qs.length ≤ sizeLine then some (.val (.tup (ps ++ qs))) else none
  | _, _ => none
def catSt : PV → PV → Option Rv
  | .str x, .str y => if x.length + y.length ≤ sizeLine then some (.val (.str (x ++ y))) else none
  | _, _ => none
def repL : PV → PV → Option Rv
  | .lst ps, .int k => if decide (-(2 ^ 63) ≤ k) && decide (k < 2 ^ 63) && decide (ps.length * k.toNat ≤ sizeLine) then some (.tmp (.lst (List.replicate k.toNat ps).flatten)) else none
  | _, _ => none
def repTp : PV → PV → Option Rv
  | .tup ps, .int k => if decide (ps ≠ []) && decide (2 ≤ k) && decide (k ≤ 1000) && decide (ps.length ≤ 1000) then some (.val (.tup (List.replicate k.toNat ps).flatten)) else none
  | _, _ => none
section
variable {K : PySem.W.Frag} {mg : Str → Option Value} {H : Hp}
theorem RpA.rep {ps : List PV} {xs : List V} (h : RpA K mg H ps xs) : ∀ m : Nat, RpA K mg H (List.replicate m ps).flatten (List.replicate m xs).flatten
  | 0 => rfl
  | m + 1 => by
    rw [List.replicate_succ, List.replicate_succ, List.flatten_cons, List.flatten_cons]
    exact h.app (RpA.rep h m)
theorem RpA.nil_iff {ps : List PV} {xs : List V} (h : RpA K mg H ps xs) : xs = [] ↔ ps = [] := by
  have := h.len
  rw [← List.length_eq_zero_iff, ← List.length_eq_zero_iff, this]
end
section
variable {L : Lx}
theorem catL_s : Op2S L catL (rCatM L.X.K) := fun rs p q z x y H Q st hx hy e hQ => by
  cases p <;> try cases e
  cases q <;> try cases e
  rename_i ps qs
  have e : (if ps.length + qs.length ≤ sizeLine then some (Rv.tmp (.lst (ps ++ qs))) else none) = some z := e
  split at e
  · rename_i hz
    cases e
    obtain ⟨a, xs, rfl, h1, h2⟩ := rv_ls hx
    obtain ⟨b, ys, rfl, h3, h4⟩ := rv_ls hy
    exact ⟨a, b, xs, ys, rfl, rfl, h1, h3, by rw [h2.len, h4.len]; exact hz, fun p hp => hQ _ _ (st.push_own hp ⟨_, upd_same, RpA.le (Le.fresh hp) _ _ (h2.app h4)⟩)⟩
  · cases e
theorem repL_s : Op2S L repL (rRepM L.X.K) := fun rs p q z x y H Q st hx hy e hQ => by
  cases p <;> try cases e
  cases q <;> try cases e
  rename_i ps k
  have e : (if decide (-(2 ^ 63) ≤ k) && decide (k < 2 ^ 63) && decide (ps.length * k.toNat ≤ sizeLine) then some (Rv.tmp (.lst (List.replicate k.toNat ps).flatten)) else none) = some z := e
  split at e
  · rename_i hz
    simp only [Bool.and_eq_true, decide_eq_true_eq] at hz
    cases e
    obtain ⟨a, xs, rfl, h1, h2⟩ := rv_ls hx
    exact ⟨a, k, xs, rfl, rv_int hy, h1, hz.1.1, hz.1.2, by rw [h2.len]; exact hz.2, fun p hp => hQ _ _ (st.push_own hp ⟨_, upd_same, RpA.le (Le.fresh hp) _ _ (h2.rep _)⟩)⟩
  · cases e
theorem catTp_s : Op2S L catTp (rCatA L.X.K) := fun rs p q z x y H Q st hx hy e hQ => by
  cases p <;> try cases e
  cases q <;> try cases e
  rename_i ps qs
  have e : (if ps.length + qs.length ≤ sizeLine then some (Rv.val (.tup (ps ++ qs))) else none) = some z := e
  split at e
  · rename_i hz
    cases e
    obtain ⟨a, xs, rfl, h1, h2⟩ := rv_tup hx
    obtain ⟨b, ys, rfl, h3, h4⟩ := rv_tup hy
    refine ⟨a, b, xs, ys, rfl, rfl, h1, h3, by rw [h2.len, h4.len]; exact hz, fun hn => ?_, fun _ hn => ?_, fun _ _ p hp => ?_⟩
    · have hp := h2.nil_iff.mp hn
      subst hp
      exact hQ _ _ (st.push_val ⟨b, ys, rfl, h3, h4⟩)
    · have hp := h4.nil_iff.mp hn
      subst hp
      refine hQ _ _ (st.push_val ⟨a, xs, rfl, h1, ?_⟩)
      rw [List.append_nil]; exact h2
    · have le := Le.fresh (o := .tup (xs ++ ys)) hp
      exact hQ _ _ ((st.fresh hp).push_val ⟨p, _, rfl, .of upd_same, RpA.le le _ _ (h2.app h4)⟩)
  · cases e
theorem repTp_s : Op2S L repTp (rRepT L.X.K) := fun rs p q z x y H Q st hx hy e hQ => by
  cases p <;> try cases e
  cases q <;> try cases e
  rename_i ps k
  have e : (if decide (ps ≠ []) && decide (2 ≤ k) && decide (k ≤ 1000) && decide (ps.length ≤ 1000) then some (Rv.val (.tup (List.replicate k.toNat ps).flatten)) else none) = some z := e
  split at e
  · rename_i hz
    simp only [Bool.and_eq_true, decide_eq_true_eq] at hz
    cases e
    obtain ⟨a, xs, rfl, h1, h2⟩ := rv_tup hx
    refine ⟨a, k, xs, rfl, rv_int hy, h1, fun z => hz.1.1.1 (h2.nil_iff.mp z), hz.1.1.2, hz.1.2, by rw [h2.len]; exact hz.2, fun p hp => ?_⟩
    have le := Le.fresh (o := .tup (List.replicate k.toNat xs).flatten) hp
    exact hQ _ _ ((st.fresh hp).push_val ⟨p, _, rfl, .of upd_same, RpA.le le _ _ (h2.rep _)⟩)
  · cases e
theorem catSt_s : Op2S L catSt (fun x y H Q => ∃ i j, x = .str i ∧ y = .str j ∧ i.length + j.length ≤ sizeLine ∧ Q (.str (i ++ j)) H) := fun rs p q z x y H Q st hx hy e hQ => by
  cases p <;> try cases e
  cases q <;> try cases e
  rename_i i j
  have e : (if i.length + j.length ≤ sizeLine then some (Rv.val (.str (i ++ j))) else none) = some z := e
  split at e
  · rename_i hz
    cases e
    exact ⟨i, j, rv_str hx, rv_str hy, hz, hQ _ _ (st.push_val rfl)⟩
  · cases e
/-- what + does, over all kinds -/
def oAdd (p q : PV) : Option Rv :=
  match p, q with
  | .int i, .int j => some (.val (.int (i + j)))
  | .lst _, .lst _ => catL p q
  | .tup _, .tup _ => catTp p q
  | .str _, .str _ => catSt p q
  | _, _ => none
def oMul (p q : PV) : Option Rv :=
  match p, q with
  | .int i, .int j => if mulOk i j || mulOkW i j then some (.val (.int (i * j))) else none
  | .lst _, .int _ => repL p q
  | .tup _, .int _ => repTp p q
  | _, _ => none
theorem oAdd_s : Op2S L oAdd (fun x y H Q => (rI0 fun i j => .int (i + j)) x y H Q ∨ rCatM L.X.K x y H Q ∨ rCatA L.X.K x y H Q ∨ ∃ i j, x = .str i ∧ y = .str j ∧ i.length + j.length ≤ sizeLine ∧ Q (.str (i ++ j)) H) := fun rs p q z x y H Q st hx hy e hQ => by
  cases p <;> cases q <;> try cases e
  · exact .inl ⟨_, _, rv_int hx, rv_int hy, hQ _ H (st.push_val rfl)⟩
  · exact .inr (.inr (.inr (catSt_s rs _ _ z x y H Q st hx hy e hQ)))
  · exact .inr (.inr (.inl (catTp_s rs _ _ z x y H Q st hx hy e hQ)))
  · exact .inr (.inl (catL_s rs _ _ z x y H Q st hx hy e hQ))
theorem oMul_s : Op2S L oMul (fun x y H Q => (rI CMul fun i j => .int (i * j)) x y H Q ∨ (rI CMulW fun i j => .int (i * j)) x y H Q ∨ rRepM L.X.K x y H Q ∨ rRepT L.X.K x y H Q) := fun rs p q z x y H Q st hx hy e hQ => by
  cases p <;> cases q <;> try cases e
  · rename_i i j
    have e : (if mulOk i j || mulOkW i j then some (Rv.val (.int (i * j))) else none) = some z := e
    split at e
    · rename_i hz
      cases e
      rw [Bool.or_eq_true] at hz
      rcases hz with hz | hz
      · exact .inl ⟨_, _, rv_int hx, rv_int hy, mulOk_c i j hz, hQ _ H (st.push_val rfl)⟩
      · exact .inr (.inl ⟨_, _, rv_int hx, rv_int hy, of_decide_eq_true (p := i.natAbs.log2 + j.natAbs.log2 < 1000000) hz, hQ _ H (st.push_val rfl)⟩)
    · cases e
  · exact .inr (.inr (.inr (repTp_s rs _ _ z x y H Q st hx hy e hQ)))
  · exact .inr (.inr (.inl (repL_s rs _ _ z x y H Q st hx hy e hQ)))
theorem op_addA {X : Cx} : OpR X (binaryOp .Add) (fun x y H Q => (rI0 fun i j => .int (i + j)) x y H Q ∨ rCatM X.K x y H Q ∨ rCatA X.K x y H Q ∨ ∃ i j, x = .str i ∧ y = .str j ∧ i.length + j.length ≤ sizeLine ∧ Q (.str (i ++ j)) H) :=
  op_add.or (op_catM.or (op_catA.or op_add_str))
theorem op_mulA {X : Cx} : OpR X (binaryOp .Mult) (fun x y H Q => (rI CMul fun i j => .int (i * j)) x y H Q ∨ (rI CMulW fun i j => .int (i * j)) x y H Q ∨ rRepM X.K x y H Q ∨ rRepT X.K x y H Q) :=
  op_mul.or (op_mulW.or (op_repM.or op_repT))
variable {a b : Expr} {f g : ESem} {pos : Pos}
theorem e_add (ha : PE L.X a (tE L f)) (hb : PE L.X b (tE L g)) : PE L.X (.BinOp a .Add b pos) (tE L (eBin oAdd f g)) := e_bin op_addA oAdd_s ha hb
theorem e_mul (ha : PE L.X a (tE L f)) (hb : PE L.X b (tE L g)) : PE L.X (.BinOp a .Mult b pos) (tE L (eBin oMul f g)) := e_bin op_mulA oMul_s ha hb
def oSub := aInt (fun _ _ => true) fun i j => i - j
theorem e_sub (ha : PE L.X a (tE L f)) (hb : PE L.X b (tE L g)) : PE L.X (.BinOp a .Sub b pos) (tE L (eBin oSub f g)) := e_bin op_sub aInt0_s ha hb
def oDiv := aInt (fun _ j => decide (0 < j) && decide (j < 1073741824)) fun i j => i / j
theorem e_div (ha : PE L.X a (tE L f)) (hb : PE L.X b (tE L g)) : PE L.X (.BinOp a .FloorDiv b pos) (tE L (eBin oDiv f g)) := e_bin op_fdiv (aInt_s (C := CDiv) (fun i j h => by simpa [CDiv] using h)) ha hb
def oMod := aInt (fun _ j => decide (0 < j)) fun i j => i % j
theorem e_mod (ha : PE L.X a (tE L f)) (hb : PE L.X b (tE L g)) : PE L.X (.BinOp a .Mod b pos) (tE L (eBin oMod f g)) := e_bin op_mod (aInt_s (C := fun _ j => 0 < j) (fun i j h => by simpa using h)) ha hb
def oPow := aInt (fun i j => decide (0 ≤ j) && decide (j ≤ 1000000) && decide (i.natAbs < 2 ^ 64)) fun i j => i ^ j.toNat
theorem e_pow (ha : PE L.X a (tE L f)) (hb : PE L.X b (tE L g)) : PE L.X (.BinOp a .Pow b pos) (tE L (eBin oPow f g)) := e_bin op_pow (aInt_s (C := CPow) (fun i j h => by simp only [Bool.and_eq_true, decide_eq_true_eq] at h; exact ⟨h.1.1, h.1.2, h.2⟩)) ha hb
def oShl := aInt (fun i j => decide (0 ≤ j) && decide (j ≤ 1000000) && decide (i.natAbs < 2 ^ 64)) fun i j => i * 2 ^ j.toNat
theorem e_shl (ha : PE L.X a (tE L f)) (hb : PE L.X b (tE L g)) : PE L.X (.BinOp a .LShift b pos) (tE L (eBin oShl f g)) := e_bin op_shl (aInt_s (C := CPow) (fun i j h => by simp only [Bool.and_eq_true, decide_eq_true_eq] at h; exact ⟨h.1.1, h.1.2, h.2⟩)) ha hb
def oBand := aInt (fun _ _ => true) fun i j => Builtin.bitAnd i j
theorem e_band (ha : PE L.X a (tE L f)) (hb : PE L.X b (tE L g)) : PE L.X (.BinOp a .BitAnd b pos) (tE L (eBin oBand f g)) := e_bin op_and aInt0_s ha hb
def oBor := aInt (fun _ _ => true) fun i j => Builtin.bitOr i j
theorem e_bor (ha : PE L.X a (tE L f)) (hb : PE L.X b (tE L g)) : PE L.X (.BinOp a .BitOr b pos) (tE L (eBin oBor f g)) := e_bin op_or aInt0_s ha hb
def oLt := cInt fun i j => decide (i < j)
def oLe := cInt fun i j => decide (i ≤ j)
def oGt := cInt fun i j => decide (j < i)
def oGe := cInt fun i j => decide (j ≤ i)
end
end Mv
end S19_

section S20_
set_option Elab.async false
set_option linter.all false
set_option maxRecDepth 100000
namespace PySem
open Sem (wp)
set_option maxHeartbeats 1000000 in
theorem mv_enum_new1 {v : Value} {o : Obj} {H : Heap → Prop} (B : Begins v o H) :
    Meets (Builtin.«enumerate.__new__» ⟨[.type "enumerate", v], []⟩) (fun _ R s => H s.heap ∧
      R (.ok (.ret (.ref (s.heap.push o).objs.size))) { s with heap := (s.heap.push o).push { cls := .type "enumerate", data := .fields #[.none, .bool false, .ref s.heap.objs.size, rawInt 0, .none, .none] } }) :=
  .of_wp fun prog w A R s h => by
    obtain ⟨hp, g, d, tk, os⟩ := s; obtain ⟨h1, h⟩ := h
    have hsub := sub_enumerate
    have q1 : ∀ {A' : Around} {E : Value → Shared → Prop} {Q : Value → Shared → Prop}, Q (.ref hp.objs.size) ⟨hp.push o, g, d, tk, os⟩ → wpAny (model prog w) A' (pyIter v) Q E ⟨hp, g, d, tk, os⟩ :=
      fun q => B.iter prog w _ _ ⟨hp, g, d, tk, os⟩ _ h1 q
    wp_walk using q1
    refine wpAny_stack_any fun st => wpAny_pure ?_
    split
    · rename_i c _ _ _ _ _
      cases (c == Value.type "enumerate")
      · wp_walk using q1
        exact ⟨_, rfl, h⟩
      · wp_walk using q1
        exact ⟨_, rfl, h⟩
    · wp_walk using q1
      exact ⟨_, rfl, h⟩
section
variable {prog : Program} {w : World} {A : Around} {E : Value → Shared → Prop} {s : Shared}
theorem mv_enum_call {v : Value} {o : Obj} {H : Heap → Prop} {Q : Value → Shared → Prop} (B : Begins v o H) (h1 : H s.heap)
    (h : ∀ h', IsEnum h' (s.heap.objs.size + 1) s.heap.objs.size 0 .none → h'.get? s.heap.objs.size = some o → h'.objs.size = s.heap.objs.size + 2 →
      (∀ b o, s.heap.get? b = some o → h'.get? b = some o) → Q (.ref (s.heap.objs.size + 1)) { s with heap := h' }) :
    wpAny (model prog w) A (call (.type "enumerate") [v]) Q E s := by
  refine callType_new F.called_enumerate (by decide) (F.typeCall_enumerate_1 _) (F.newCall_enumerate_1 _) (fun obj => F.args_object_init_2 obj _) F.entry_enumerate_new (mv_enum_new1 B) ⟨h1, ?_⟩
  have hz : (s.heap.push o).objs.size = s.heap.objs.size + 1 := Heap.size_push ..
  show _ ∧ _
  rw [hz]
  have he : IsEnum ((s.heap.push o).push { cls := .type "enumerate", data := .fields #[.none, .bool false, .ref s.heap.objs.size, rawInt 0, .none, .none] }) (s.heap.objs.size + 1) s.heap.objs.size 0 .none := by
    have := Heap.get?_push_size (s.heap.push o) (o := { cls := .type "enumerate", data := .fields #[.none, .bool false, .ref s.heap.objs.size, rawInt 0, .none, .none] }) rfl
    rw [hz] at this; exact this
  exact ⟨⟨_, he, rfl⟩, h _ he (Heap.get?_push_of_some _ (Heap.get?_push_size _ B.free)) (by rw [Heap.size_push, hz]) fun b o x => Heap.get?_push_of_some _ (Heap.get?_push_of_some _ x)⟩
end
end PySem
namespace Mv
open PySem PySem.Spec PyProof.Rows L2

/-! ### enumerate over a tuple -/
def IteT (K : PySem.W.Frag) (a : Addr) : It :=
  ⟨fun i H => ∃ (xs : List V) (x : V), SqT K H a xs ∧ xs[i]? = some x, fun i H v H' => ∃ T x, v = .ref T ∧ H T = none ∧ H' = upd H T (.tup [.int (i : Nat), x]) ∧ ∀ xs, SqT K H a xs → xs[i]? = some x, fun i H => ∃ xs : List V, SqT K H a xs ∧ xs.length = i⟩
theorem turn_enumT {P : Program} {w : World} {K : PySem.W.Frag} {elts : List Expr} {kk : Nat} {tpos : Pos} (a e it : Addr) (hae : e ≠ a) (hai : a ≠ it) :
    Turn P w K (.Tuple elts kk tpos) (IteT K a) [e, it] e (fun i h => (∃ old, IsEnum h e it ((i : Nat) : Int) old) ∧ h.IsTupleIter it a i ∧ e ≠ it) where
  mem := by simp
  obj := fun i h st b hb => by
    obtain ⟨⟨old, he⟩, ⟨o, ho, hc, hd⟩, _⟩ := st
    have e' : b = e ∨ b = it := by simpa using hb
    rcases e' with z | z
    · rw [z]; exact ⟨_, he, fun v q => nomatch q⟩
    · rw [z]; exact ⟨o, ho, fun v q => by rw [hd] at q; cases q⟩
  keep := fun i h h' st k => let ⟨⟨old, he⟩, hi, hne⟩ := st; ⟨⟨old, k e (by simp) _ he⟩, hi.at fun o q => k it (by simp) o q, hne⟩
  item := by
    intro X hP hw hK hc i pins s σ H E I hf st hg
    subst hP hw hK
    obtain ⟨⟨old, he⟩, hit, hne⟩ := st
    obtain ⟨xs, x, hq, hx⟩ := hg
    obtain ⟨its, rv, p, hz⟩ := I.tuple hq
    obtain ⟨u, hu, ru⟩ := rv.get hx
    have hel : e < s.heap.objs.size := Heap.lt_size he
    have hil : it < s.heap.objs.size := by obtain ⟨_, q, _⟩ := hit; exact Heap.lt_size q
    have hlt : i < its.toArray.size := by rw [List.size_toArray]; exact (List.getElem?_eq_some_iff.mp hu).1
    refine wpAny_pyNext_enum_itemD (Draws.tuple (by exact I.ok.hd hc) it a hai its.toArray) he ⟨hit, p⟩ hlt hne (by simp [hne, hae]) fun y h' tk hy ho hit' hT hsz hk => ?_
    obtain rfl : u = y := by
      have hy : its.toArray[i]? = some y := hy
      have hu : its[i]? = some u := hu
      simp at hy
      rw [hu] at hy; cases hy; rfl
    refine ⟨_, rfl, wpAny_letOwnedTupleGo_enum (s := { s with heap := h', toks := tk + 1 }) ho fun h'' he' sb => ?_⟩
    have hT2 : h''.get? s.heap.objs.size = some { cls := .type "tuple", data := .seq #[.int i tk, u] } := (sb.2 _ (Nat.ne_of_gt hel)).trans hT
    have new : ObjOk X.prog X.w (upd H s.heap.objs.size (.tup [.int (i : Nat), x])) h'' s.heap.objs.size (.tup [.int (i : Nat), x]) :=
      ⟨by show 2 ≤ sizeLine; decide, [.int i tk, u], .cons ⟨_, rfl⟩ (.cons ru .nil), ⟨_, hT2, rfl, _, rfl⟩⟩
    have I1 : L2.Inv X pins σ (upd H s.heap.objs.size (.tup [.int (i : Nat), x])) { s with heap := h'', toks := tk + 1 } :=
      I.turnedNew (ch := [e, it]) (fun b ob hb q => (sb.2 b (fun z => hb (by simp [z]))).trans (hk b ob (fun z => hb (by simp [z])) (fun z => hb (by simp [z])) q)) hf (Nat.le_refl _) new
    refine ⟨.ref s.heap.objs.size, _, I1, rfl, ⟨_, x, rfl, I.hok.fresh (Nat.le_refl _), rfl, fun ys hy => by rw [I.tuple_inj hy hq]; exact hx⟩, ⟨⟨u, ?_⟩, hit'.1.at fun o q => (sb.2 it (Ne.symm hne)).trans q, hne⟩, fun b hb => ?_⟩
    · have e1 : ((i + 1 : Nat) : Int) = (i : Int) + 1 := by omega
      rw [e1]; exact he'
    · have hb' : b < s.heap.objs.size := by
        have e' : b = e ∨ b = it := by simpa using hb
        rcases e' with z | z
        · rw [z]; exact hel
        · rw [z]; exact hil
      rw [upd_ne (Nat.ne_of_lt hb')]
      exact (hf b hb).1
  done := by
    intro X hP hw hK hc i pins s σ H E I hf st hg
    subst hP hw hK
    obtain ⟨⟨old, he⟩, hit, hne⟩ := st
    obtain ⟨xs, hq, hx⟩ := hg
    obtain ⟨its, rv, p, hz⟩ := I.tuple hq
    obtain ⟨f0, f1, f2, f3, f4, f5⟩ := hf it (by simp)
    have hl := rv.length
    have hsz : its.toArray.size = i := by rw [List.size_toArray]; omega
    exact wpAny_pyNext_enum_endD (Draws.tuple (by exact I.ok.hd hc) it a hai its.toArray) he (by rw [hsz]; exact ⟨hit, p⟩) fun h' eb => ⟨rfl, I.turned (t' := s.toks) (fun b o hb q => eb b o hb q) f0 f1 f3 f4 f5⟩
  self := fun A i s Q E st h => let ⟨⟨_, he⟩, _⟩ := st; wpAny_pyIter_enum he h

def iEnumA (K : PySem.W.Frag) (ta : TA) : TI := fun σ H R => ta σ H fun vs H1 => ∃ a, vs = [.ref a] ∧ ((∃ xs, SqL K H1 a xs ∧ R (Ite K a) H1) ∨ ∃ xs, SqT K H1 a xs ∧ R (IteT K a) H1)
theorem pi_enumA {X : Cx} {e : Expr} {ta : TA} {p pos tpos : Pos} {elts : List Expr} {kk : Nat} (hg : Gl X "enumerate") (hm : X.mg "enumerate" = none) (ha : PA X [e] ta) (hs : starEach [e] X.env = [(false, eval e X.env)]) :
    PI X (.Tuple elts kk tpos) (.Call (.Name "enumerate" p) [e] [] pos) (iEnumA X.K ta) := by
  refine ⟨fun pins s σ H R I h => ?_⟩
  refine Call_ (ld_blt I hg hm boot_enumerate (PyProof.Rows.callWith_type1 (thn (ha.run pos pins s σ H _ I h) fun us s1 ⟨vs, H1, I1, r1, q1⟩ => ?_) hs rfl))
  obtain ⟨a, ex, q1⟩ := q1
  subst ex
  have fp : ∀ b ∈ [s1.heap.objs.size + 1, s1.heap.objs.size], FpOk X pins H1 b := fun b hb => by
    have e' : b = s1.heap.objs.size + 1 ∨ b = s1.heap.objs.size := by simpa using hb
    have hle : s1.heap.objs.size ≤ b := by
      rcases e' with z | z
      · rw [z]; exact Nat.le_add_right _ _
      · rw [z]; exact Nat.le_refl _
    exact I1.fpOk hle (I1.hok.fresh hle)
  cases r1 with
  | cons r rr =>
    cases rr
    cases r
    rcases q1 with ⟨xs, hq, q⟩ | ⟨xs, hq, q⟩
    · obtain ⟨its, rv, p', hz⟩ := I1.list hq
      refine call_enumerate_list p'.isList fun h' he hit hsz hk => wpAny_pyIter_enum he ?_
      have I2 : L2.Inv X pins σ H1 { s1 with heap := h' } := I1.kept (t' := s1.toks) hk
      exact ⟨s1.heap.objs.size + 1, [s1.heap.objs.size + 1, s1.heap.objs.size], _, _, H1, rfl, I2, turn_enum a (s1.heap.objs.size + 1) s1.heap.objs.size, ⟨⟨.none, he⟩, hit, Nat.succ_ne_self _⟩, fp, q⟩
    · obtain ⟨its, rv, p', hz⟩ := I1.tuple hq
      have hal : a < s1.heap.objs.size := by obtain ⟨_, q, _⟩ := p'; exact Heap.lt_size q
      refine mv_enum_call (begins_tuple a its.toArray) p' fun h' he hit hsz hk => wpAny_pyIter_enum he ?_
      have I2 : L2.Inv X pins σ H1 { s1 with heap := h' } := I1.kept (t' := s1.toks) hk
      exact ⟨s1.heap.objs.size + 1, [s1.heap.objs.size + 1, s1.heap.objs.size], _, _, H1, rfl, I2, turn_enumT a (s1.heap.objs.size + 1) s1.heap.objs.size (Nat.ne_of_gt (Nat.lt_succ_of_lt hal)) (Nat.ne_of_lt hal), ⟨⟨.none, he⟩, ⟨_, hit, rfl, rfl⟩, Nat.succ_ne_self _⟩, fp, q⟩
def iEnA (f : ESem) : ISem := fun Γ => (eZ f Γ).bind fun d Γ' => match d with
  | .val (.lst ps) => .ok (enumL 0 ps) Γ'
  | .val (.tup ps) => .ok (enumL 0 ps) Γ'
  | _ => .no
section
variable {L : Lx} {tg e : Expr} {f : ESem}
theorem i_enA (h : PI L.X tg e (iEnumA L.X.K (tCons (tE L (eZ f)) tNil))) : PI L.X tg e (tI L (iEnA f)) := piI h fun σ H R q => by
  obtain ⟨Γ, T, hl, st, q⟩ := q
  refine tE_bind hl (List.Sublist.refl T) st q fun d Γ1 x H1 hl1 o1 h1 => ?_
  cases d with
  | val p =>
    cases p with
    | lst ps =>
      obtain ⟨y, ey, a, xs, ea, hq, hr⟩ := o1.st.rel (some x, .sh (.lst ps)) (List.mem_append_right _ List.mem_cons_self)
      cases ey
      subst ea
      refine ⟨a, rfl, .inl ⟨xs, hq.sq, h1 hl1 _ _ _ (psh_sub _ _ _) o1.st ⟨fun H2 hT i q e => ?_, fun H2 hT => ?_⟩⟩⟩
      · obtain ⟨y, ey, b, ys, eb, hq2, hr2⟩ := hT (some (.ref a), .sh (.lst ps)) List.mem_cons_self
        cases ey; cases eb
        obtain ⟨p, ep, rfl⟩ := enumL_at ps 0 i q e
        obtain ⟨w, ew, rw'⟩ := hr2.get ep
        refine ⟨⟨ys, w, hq2.sq, ew⟩, fun v H3 ⟨T, w', e1, e2, e3, e4⟩ => ?_⟩
        have := e4 ys hq2.sq
        rw [ew] at this
        cases this
        subst e1 e3
        refine ⟨.inr ⟨T, _, e2, rfl⟩, ?_⟩
        rw [Nat.zero_add]
        exact rp_pair e2 rfl rw'
      · obtain ⟨y, ey, b, ys, eb, hq2, hr2⟩ := hT (some (.ref a), .sh (.lst ps)) List.mem_cons_self
        cases ey; cases eb
        exact ⟨ys, hq2.sq, by rw [enumL_len, hr2.len]; exact Nat.le_refl _⟩
    | tup ps =>
      obtain ⟨y, ey, a, xs, ea, hq, hr⟩ := o1.st.rel (some x, .sh (.tup ps)) (List.mem_append_right _ List.mem_cons_self)
      cases ey
      subst ea
      refine ⟨a, rfl, .inr ⟨xs, hq, h1 hl1 _ _ _ (psh_sub _ _ _) o1.st ⟨fun H2 hT i q e => ?_, fun H2 hT => ?_⟩⟩⟩
      · obtain ⟨y, ey, b, ys, eb, hq2, hr2⟩ := hT (some (.ref a), .sh (.tup ps)) List.mem_cons_self
        cases ey; cases eb
        obtain ⟨p, ep, rfl⟩ := enumL_at ps 0 i q e
        obtain ⟨w, ew, rw'⟩ := hr2.get ep
        refine ⟨⟨ys, w, hq2, ew⟩, fun v H3 ⟨T, w', e1, e2, e3, e4⟩ => ?_⟩
        have := e4 ys hq2
        rw [ew] at this
        cases this
        subst e1 e3
        refine ⟨.inr ⟨T, _, e2, rfl⟩, ?_⟩
        rw [Nat.zero_add]
        exact rp_pair e2 rfl rw'
      · obtain ⟨y, ey, b, ys, eb, hq2, hr2⟩ := hT (some (.ref a), .sh (.tup ps)) List.mem_cons_self
        cases ey; cases eb
        exact ⟨ys, hq2, by rw [enumL_len, hr2.len]⟩
    | _ => exact h1.elim
  | _ => exact h1.elim
/-! ### a list or a tuple, walked -/
def iSq (K : PySem.W.Frag) (tl : TE) : TI := fun σ H R => tl σ H fun x H1 => ∃ a, x = .ref a ∧ ((∃ xs, SqL K H1 a xs ∧ R (Itl K a) H1) ∨ ∃ xs, SqT K H1 a xs ∧ R (Itt K a) H1)
theorem pi_sq {X : Cx} {l : Expr} {tl : TE} (hl : PE X l tl) : PI X tg l (iSq X.K tl) := by
  refine ⟨fun pins s σ H R I h => ?_⟩
  refine thn (hl.run pins s σ H _ I h) fun v s1 ⟨x, H1, I1, r1, q1⟩ => ?_
  obtain ⟨a, e, q⟩ := q1
  subst e
  obtain rfl : v = Value.ref a := r1
  have fp : ∀ b ∈ [s1.heap.objs.size], FpOk X pins H1 b := fun b hb => by
    have e : b = s1.heap.objs.size := by simpa using hb
    subst e
    exact I1.fpOk (Nat.le_refl _) (I1.hok.fresh (Nat.le_refl _))
  rcases q with ⟨xs, hq, q⟩ | ⟨xs, hq, q⟩
  · obtain ⟨its, rv, p, hz⟩ := I1.list hq
    refine wpAny_pyIter_list p.isList ?_
    exact ⟨s1.heap.objs.size, [s1.heap.objs.size], _, _, H1, rfl, I1.kept (t' := s1.toks) fun b o e => Heap.get?_push_of_some _ e, turn_list a _, ⟨_, Heap.get?_push_size _ rfl, rfl, rfl⟩, fp, q⟩
  · obtain ⟨its, rv, p, hz⟩ := I1.tuple hq
    refine wpAny_pyIter_tuple (show s1.heap.IsTuple a its.toArray from p) ?_
    exact ⟨s1.heap.objs.size, [s1.heap.objs.size], _, _, H1, rfl, I1.kept (t' := s1.toks) fun b o e => Heap.get?_push_of_some _ e, turn_tuple a _, ⟨_, Heap.get?_push_size _ rfl, rfl, rfl⟩, fp, q⟩
theorem i_sq (h : PE L.X e (tE L f)) : PI L.X tg e (tI L (iSeq f)) := piI (pi_sq (e_z h)) fun σ H R q => by
  obtain ⟨Γ, T, hl, st, q⟩ := q
  refine tE_bind hl (List.Sublist.refl T) st q fun d Γ1 x H1 hl1 o1 h1 => ?_
  cases d with
  | val p =>
    cases p with
    | lst ps =>
      obtain ⟨y, ey, a, xs, ea, hq, hr⟩ := o1.st.rel (some x, .sh (.lst ps)) (List.mem_append_right _ List.mem_cons_self)
      cases ey
      subst ea
      exact ⟨a, rfl, .inl ⟨xs, hq.sq, h1 hl1 _ _ _ (psh_sub _ _ _) o1.st (it_lst List.mem_cons_self)⟩⟩
    | tup ps =>
      obtain ⟨y, ey, a, xs, ea, hq, hr⟩ := o1.st.rel (some x, .sh (.tup ps)) (List.mem_append_right _ List.mem_cons_self)
      cases ey
      subst ea
      exact ⟨a, rfl, .inr ⟨xs, hq, h1 hl1 _ _ _ (psh_sub _ _ _) o1.st (it_tup List.mem_cons_self)⟩⟩
    | _ => exact h1.elim
  | _ => exact h1.elim
end
end Mv
end S20_

section S21_
set_option Elab.async false
set_option linter.all false
set_option maxRecDepth 100000
namespace Mv
open PySem PySem.Spec PyProof.Rows L2

/-! ### the rules in short -/
/-- which comparison of ints, for chains -/
inductive Ck where | lt | le | gt | ge
def Ck.o : Ck → CmpOp | .lt => .Lt | .le => .LtE | .gt => .Gt | .ge => .GtE
def Ck.f : Ck → PV → PV → Option Rv | .lt => oLt | .le => oLe | .gt => oGt | .ge => oGe
def Ck.r : Ck → R2 | .lt => rI0 fun i j => .bl (decide (i < j)) | .le => rI0 fun i j => .bl (decide (i ≤ j)) | .gt => rI0 fun i j => .bl (decide (j < i)) | .ge => rI0 fun i j => .bl (decide (j ≤ i))
theorem Ck.op {X : Cx} (c : Ck) : OpR X (compareOp c.o) c.r := by cases c; exact op_lt; exact op_le; exact op_gt; exact op_ge
theorem Ck.s {L : Lx} (c : Ck) : Op2S L c.f c.r := by cases c <;> exact cInt_s
theorem k_chn {L : Lx} {e e2 : Expr} {f g : ESem} {pos : Pos} (c c' : Ck) {e3 : Expr} {k : ESem} (ha : PE L.X e (tE L f)) (hb : PE L.X e2 (tE L g)) (hc : PE L.X e3 (tE L k)) (hm : lastMarks [c.o, c'.o] [e2, e3] = false := by rfl) : PE L.X (.Compare e [c.o, c'.o] [e2, e3] pos) (tE L (eChn c.f c'.f f g k)) :=
  e_chn ha hb hc c.op c'.op c.s c'.s (pe_chain c.op c'.op ha hb hc hm)
section
variable {L : Lx} {pos p apos : Pos} {e e2 : Expr} {es : List Expr} {f g : ESem} {fs : List ESem} {a : ASem} {op op' : List PV → Option Rv} {r r' : List V → Hp → VK → Prop}
theorem ac (ha : PE L.X e (tE L f)) (hr : PA L.X es (tA L (aS fs))) (hs : starEach (e :: es) L.X.env = (false, eval e L.X.env) :: starEach es L.X.env := by rfl) : PA L.X (e :: es) (tA L (aS (f :: fs))) := a_cons ha hr hs
/-- two ways of one built-in -/
def orB (op op' : List PV → Option Rv) : List PV → Option Rv := fun ps => match op ps with | some z => some z | none => op' ps
theorem orB_s (h : OpNS L op r) (h' : OpNS L op' r') : OpNS L (orB op op') (fun xs H Q => r xs H Q ∨ r' xs H Q) := fun rs ps z xs H Q st hv e hQ => by
  unfold orB at e
  cases e1 : op ps with
  | some w => rw [e1] at e; cases e; exact .inl (h rs ps _ xs H Q st hv e1 hQ)
  | none => rw [e1] at e; exact .inr (h' rs ps z xs H Q st hv e hQ)
theorem bl {id : String} (hc : CallR L.X (.builtin id) r) (ho : OpNS L op r) {x : Str} (hm : L.X.mg x = none) (ha : PA L.X (e :: es) (tA L a)) (hg : Gl L.X x := by rfl) (hv : bootBuiltins x = some (.builtin id) := by rfl) (hn : x ≠ "__name__" := by decide) (hdb : (x == ("__debug__" : Str)) = false := by decide)
    (he : starEach (e :: es) L.X.env = (false, eval e L.X.env) :: starEach es L.X.env := by rfl) (hpl : (backTo pos (starEach es L.X.env)).any (·.1) = false := by rfl) : PE L.X (.Call (.Name x p) (e :: es) [] pos) (tE L (eB op a)) := e_callB hc ho hg hm hv ha hn hdb he hpl
theorem bt {TT : String} (hc : CallR L.X (.type TT) r) (ho : OpNS L op r) {x : Str} (hm : L.X.mg x = none) (ha : PA L.X (e :: es) (tA L a)) (hg : Gl L.X x := by rfl) (hv : bootBuiltins x = some (.type TT) := by rfl) (hn : x ≠ "__name__" := by decide) (hdb : (x == ("__debug__" : Str)) = false := by decide)
    (he : starEach (e :: es) L.X.env = (false, eval e L.X.env) :: starEach es L.X.env := by rfl) (hpl : (backTo pos (starEach es L.X.env)).any (·.1) = false := by rfl) : PE L.X (.Call (.Name x p) (e :: es) [] pos) (tE L (eB op a)) := e_callTy hc ho hg hm hv ha hn hdb he hpl
def oLen := orB (op1 bLen) (op1 bLenS)
theorem c_len : CallR L.X (.builtin "len") (fun xs H Q => (∃ p ys, xs = [.ref p] ∧ (SqL L.X.K H p ys ∨ SqT L.X.K H p ys) ∧ Q (.int ys.length) H) ∨ ∃ z, xs = [.str z] ∧ z.length ≤ sizeLine ∧ Q (.int z.length) H) := call_len_seq.or call_len_str
theorem oLen_s : OpNS L oLen (fun xs H Q => (∃ p ys, xs = [.ref p] ∧ (SqL L.X.K H p ys ∨ SqT L.X.K H p ys) ∧ Q (.int ys.length) H) ∨ ∃ z, xs = [.str z] ∧ z.length ≤ sizeLine ∧ Q (.int z.length) H) := orB_s bLen_s bLenS_s
theorem c_repr {k : Nat} (hr : RoomG k L.X.A) : CallR L.X (.builtin "repr") (rRepr L.X.K) := call_reprD hr.g (by have := hr.r.un; omega)
def oMax2 := orB (op2 bMax2) (op1 bMaxL)
def oMin2 := orB (op2 bMin2) (op1 bMinL)
theorem c_max (hc : L.X.calm = true) : CallR L.X (.builtin "max") (fun xs H Q => (∃ i j, xs = [.int i, .int j] ∧ Q (.int (if j > i then j else i)) H) ∨ rMax L.X.K xs H Q) := (call_max2 hc).or (cr_max hc)
theorem oMax2_s : OpNS L oMax2 (fun xs H Q => (∃ i j, xs = [.int i, .int j] ∧ Q (.int (if j > i then j else i)) H) ∨ rMax L.X.K xs H Q) := orB_s bMax2_s bMaxL_s
theorem c_min (hc : L.X.calm = true) : CallR L.X (.builtin "min") (fun xs H Q => (∃ i j, xs = [.int i, .int j] ∧ Q (.int (if j < i then j else i)) H) ∨ rMin L.X.K xs H Q) := (call_min2 hc).or (cr_min hc)
theorem oMin2_s : OpNS L oMin2 (fun xs H Q => (∃ i j, xs = [.int i, .int j] ∧ Q (.int (if j < i then j else i)) H) ∨ rMin L.X.K xs H Q) := orB_s bMin2_s bMinL_s

/-! methods of one's own lists -/
theorem m_app {j : Nat} {x : Str} {px cpos : Pos} (hv : PE L.X (.Name x px) (tVar j)) (ha : PA L.X [e] (tA L a)) (hbase : attributeBase (.Name x px) "append" L.X.env (eval (.Name x px) L.X.env) = eval (.Name x px) L.X.env := by rfl)
    (hfew : ((backTo cpos (starEach [e] L.X.env)).all (fun x => !x.1) && (backToKw cpos (keywordEach [] L.X.env)).all (fun x => x.1.isSome) && decide ([e].length + ([] : List Keyword).length + (if ([] : List Keyword).isEmpty then 0 else 1) < 30)) = true := by rfl)
    (hline : (apos.endLine == cpos.line) = true := by rfl) (hs : starEach [e] L.X.env = (false, eval e L.X.env) :: starEach [] L.X.env := by rfl) (hpl : (backTo cpos (starEach [] L.X.env)).any (·.1) = false := by rfl) : PE L.X (.Call (.Attribute (.Name x px) "append" apos) [e] [] cpos) (tE L (eM isLst mAppend j a)) :=
  e_m mAppend_w (pe_bm PySem.F.plainAttrs_list PySem.F.slot_list_append PySem.F.type_list_append mt_append hv ha hbase hfew hline hs hpl)
theorem m_pop {j : Nat} {x : Str} {px cpos : Pos} (hv : PE L.X (.Name x px) (tVar j)) (ha : PA L.X [e] (tA L a)) (hbase : attributeBase (.Name x px) "pop" L.X.env (eval (.Name x px) L.X.env) = eval (.Name x px) L.X.env := by rfl)
    (hfew : ((backTo cpos (starEach [e] L.X.env)).all (fun x => !x.1) && (backToKw cpos (keywordEach [] L.X.env)).all (fun x => x.1.isSome) && decide ([e].length + ([] : List Keyword).length + (if ([] : List Keyword).isEmpty then 0 else 1) < 30)) = true := by rfl)
    (hline : (apos.endLine == cpos.line) = true := by rfl) (hs : starEach [e] L.X.env = (false, eval e L.X.env) :: starEach [] L.X.env := by rfl) (hpl : (backTo cpos (starEach [] L.X.env)).any (·.1) = false := by rfl) : PE L.X (.Call (.Attribute (.Name x px) "pop" apos) [e] [] cpos) (tE L (eM isLst mPopAt j a)) :=
  e_m mPopAt_w (pe_bm PySem.F.plainAttrs_list PySem.F.slot_list_pop PySem.F.type_list_pop mt_popAt hv ha hbase hfew hline hs hpl)

/-! comparisons -/
variable {q : Pos}
theorem k_lt (ha : PE L.X e (tE L f)) (hb : PE L.X e2 (tE L g)) (hm : behindInMarks .Lt e2 = false := by rfl) : PE L.X (.Compare e [.Lt] [e2] pos) (tE L (eBin oLt f g)) := e_cmp op_lt cInt_s ha hb hm
theorem k_le (ha : PE L.X e (tE L f)) (hb : PE L.X e2 (tE L g)) (hm : behindInMarks .LtE e2 = false := by rfl) : PE L.X (.Compare e [.LtE] [e2] pos) (tE L (eBin oLe f g)) := e_cmp op_le cInt_s ha hb hm
theorem k_gt (ha : PE L.X e (tE L f)) (hb : PE L.X e2 (tE L g)) (hm : behindInMarks .Gt e2 = false := by rfl) : PE L.X (.Compare e [.Gt] [e2] pos) (tE L (eBin oGt f g)) := e_cmp op_gt cInt_s ha hb hm
theorem k_ge (ha : PE L.X e (tE L f)) (hb : PE L.X e2 (tE L g)) (hm : behindInMarks .GtE e2 = false := by rfl) : PE L.X (.Compare e [.GtE] [e2] pos) (tE L (eBin oGe f g)) := e_cmp op_ge cInt_s ha hb hm
theorem k_eq {k : Nat} (hr : RoomG k L.X.A) (ha : PE L.X e (tE L f)) (hb : PE L.X e2 (tE L g)) (hm : behindInMarks .Eq e2 = false := by rfl) : PE L.X (.Compare e [.Eq] [e2] pos) (tE L (eBin oEq f g)) := e_cmp (op_eqD (by have := hr.r.un; omega)) oEq_s ha hb hm
theorem k_ne {k : Nat} (hr : RoomG k L.X.A) (ha : PE L.X e (tE L f)) (hb : PE L.X e2 (tE L g)) (hm : behindInMarks .NotEq e2 = false := by rfl) : PE L.X (.Compare e [.NotEq] [e2] pos) (tE L (eBin oNe f g)) := e_cmp (op_neD (by have := hr.r.un; omega)) oNe_s ha hb hm
theorem k_is (ha : PE L.X e (tE L f)) (hb : PE L.X e2 (tE L g)) (hm : behindInMarks .Is e2 = false := by rfl) : PE L.X (.Compare e [.Is] [e2] pos) (tE L (eBin oIsN f g)) := e_cmp op_isN oIsN_s ha hb hm
theorem k_nt (ha : PE L.X e (tE L f)) (hb : PE L.X e2 (tE L g)) (hm : behindInMarks .IsNot e2 = false := by rfl) : PE L.X (.Compare e [.IsNot] [e2] pos) (tE L (eBin oNotN f g)) := e_cmp op_notN oNotN_s ha hb hm
/-! comparisons as tests -/
theorem tv_go {f : ESem} {σ : L2.St} {H : Hp} {Q : Bool → Hp → Prop} (q : tT L (tV f) σ H Q) : tE L f σ H fun x H' => ∃ k, x = .bl k ∧ Q k H' := by
  obtain ⟨Γ, T, hl, st, q⟩ := q
  refine tE_bind hl (List.Sublist.refl T) st q fun d Γ1 x H1 hl1 o1 h1 => ?_
  cases e : vw Γ1 d with
  | none => simp only [e] at h1; exact h1.elim
  | some p =>
    simp only [e] at h1
    cases p with
    | bl b => exact ⟨b, rv_bl (view_of o1.st o1.has e), h1 hl1 H1 (o1.st.sub (List.Sublist.append (List.Sublist.refl _) (psh_sub _ _ _)))⟩
    | _ => exact h1.elim
theorem t_cmp {o : CmpOp} {op : PV → PV → Option Rv} {r : R2} (hr : OpR L.X (compareOp o) r) (ho : Op2S L op r) (ha : PE L.X e (tE L f)) (hb : PE L.X e2 (tE L g)) (hm : behindInMarks o e2 = false) : PT L.X (.Compare e [o] [e2] pos) (tT L (tV (eBin op f g))) :=
  ptI (pt_cmpR hr ha hb hm) fun _ _ _ q => bin_go ho (tv_go q)
theorem t_lt (ha : PE L.X e (tE L f)) (hb : PE L.X e2 (tE L g)) (hm : behindInMarks .Lt e2 = false := by rfl) : PT L.X (.Compare e [.Lt] [e2] pos) (tT L (tV (eBin oLt f g))) := t_cmp op_lt cInt_s ha hb hm
theorem t_le (ha : PE L.X e (tE L f)) (hb : PE L.X e2 (tE L g)) (hm : behindInMarks .LtE e2 = false := by rfl) : PT L.X (.Compare e [.LtE] [e2] pos) (tT L (tV (eBin oLe f g))) := t_cmp op_le cInt_s ha hb hm
theorem t_gt (ha : PE L.X e (tE L f)) (hb : PE L.X e2 (tE L g)) (hm : behindInMarks .Gt e2 = false := by rfl) : PT L.X (.Compare e [.Gt] [e2] pos) (tT L (tV (eBin oGt f g))) := t_cmp op_gt cInt_s ha hb hm
theorem t_ge (ha : PE L.X e (tE L f)) (hb : PE L.X e2 (tE L g)) (hm : behindInMarks .GtE e2 = false := by rfl) : PT L.X (.Compare e [.GtE] [e2] pos) (tT L (tV (eBin oGe f g))) := t_cmp op_ge cInt_s ha hb hm
theorem t_eq {k : Nat} (hr : RoomG k L.X.A) (ha : PE L.X e (tE L f)) (hb : PE L.X e2 (tE L g)) (hm : behindInMarks .Eq e2 = false := by rfl) : PT L.X (.Compare e [.Eq] [e2] pos) (tT L (tV (eBin oEq f g))) := t_cmp (op_eqD (by have := hr.r.un; omega)) oEq_s ha hb hm
theorem t_ne {k : Nat} (hr : RoomG k L.X.A) (ha : PE L.X e (tE L f)) (hb : PE L.X e2 (tE L g)) (hm : behindInMarks .NotEq e2 = false := by rfl) : PT L.X (.Compare e [.NotEq] [e2] pos) (tT L (tV (eBin oNe f g))) := t_cmp (op_neD (by have := hr.r.un; omega)) oNe_s ha hb hm
theorem t_is (ha : PE L.X e (tE L f)) (hb : PE L.X e2 (tE L g)) (hm : behindInMarks .Is e2 = false := by rfl) : PT L.X (.Compare e [.Is] [e2] pos) (tT L (tV (eBin oIsN f g))) := t_cmp op_isN oIsN_s ha hb hm
theorem t_nt (ha : PE L.X e (tE L f)) (hb : PE L.X e2 (tE L g)) (hm : behindInMarks .IsNot e2 = false := by rfl) : PT L.X (.Compare e [.IsNot] [e2] pos) (tT L (tV (eBin oNotN f g))) := t_cmp op_notN oNotN_s ha hb hm
theorem t_chn (c c' : Ck) {e3 : Expr} {k : ESem} (ha : PE L.X e (tE L f)) (hb : PE L.X e2 (tE L g)) (hc : PE L.X e3 (tE L k)) (hm : lastMarks [c.o, c'.o] [e2, e3] = false := by rfl) : PT L.X (.Compare e [c.o, c'.o] [e2, e3] pos) (tT L (tV (eChn c.f c'.f f g k))) :=
  ptI (pt_chain c.op c'.op ha hb hc hm) fun _ _ _ q => chn_go c.s c'.s (tv_go q)
/-! - -/
def oNeg : PV → Option Rv
  | .int i => some (.val (.int (-i)))
  | _ => none
theorem oNeg_s : Op1S L oNeg (rU fun i => .int (-i)) := fun rs p z x H Q st hx e hQ => by
  cases p <;> try cases e
  exact ⟨_, rv_int hx, hQ _ H (st.push_val rfl)⟩
theorem e_neg (ha : PE L.X e (tE L f)) : PE L.X (.UnaryOp .USub e pos) (tE L (eUn oNeg f)) := e_un un_neg oNeg_s ha
/-! ranges -/
theorem i_r1 {tg : Expr} (hm : L.X.mg "range" = none) (ha : PE L.X e (tE L f)) (hg : Gl L.X "range" := by rfl) (h1 : starEach [e] L.X.env = [(false, eval e L.X.env)] := by rfl) : PI L.X tg (.Call (.Name "range" p) [e] [] pos) (tI L (iRg1 f)) := i_rg1 (pi_range1 hg hm (pa_cons ha pa_nil h1) h1)
theorem i_r2 {tg : Expr} (hm : L.X.mg "range" = none) (ha : PE L.X e (tE L f)) (hb : PE L.X e2 (tE L g)) (hg : Gl L.X "range" := by rfl) (h1 : starEach [e, e2] L.X.env = (false, eval e L.X.env) :: starEach [e2] L.X.env := by rfl) (h2 : starEach [e2] L.X.env = (false, eval e2 L.X.env) :: starEach [] L.X.env := by rfl)
    (h3 : starEach [e, e2] L.X.env = [(false, eval e L.X.env), (false, eval e2 L.X.env)] := by rfl) : PI L.X tg (.Call (.Name "range" p) [e, e2] [] pos) (tI L (iRg2 f g)) := i_rg2 (pi_range2 hg hm (pa_cons ha (pa_cons hb pa_nil h2) h1) h3 h2)
theorem l_r1 {pr qr : Pos} (hc : L.X.calm = true) (hl : L.X.mg "list" = none) (hm : L.X.mg "range" = none) (ha : PE L.X e (tE L f)) (hg : Gl L.X "range" := by rfl) (hgl : Gl L.X "list" := by rfl) (h1 : starEach [e] L.X.env = (false, eval e L.X.env) :: starEach [] L.X.env := by rfl)
    (h0 : starEach [.Call (.Name "range" pr) [e] [] qr] L.X.env = (false, eval (.Call (.Name "range" pr) [e] [] qr) L.X.env) :: starEach [] L.X.env := by rfl) : PE L.X (.Call (.Name "list" p) [.Call (.Name "range" pr) [e] [] qr] [] pos) (tE L (eLR1 f)) := e_lr1 (pe_listRg hc hgl hl (prg_1 hg hm ha h1) h0)
theorem l_r2 {pr qr : Pos} (hc : L.X.calm = true) (hl : L.X.mg "list" = none) (hm : L.X.mg "range" = none) (ha : PE L.X e (tE L f)) (hb : PE L.X e2 (tE L g)) (hg : Gl L.X "range" := by rfl) (hgl : Gl L.X "list" := by rfl) (h1 : starEach [e, e2] L.X.env = (false, eval e L.X.env) :: starEach [e2] L.X.env := by rfl) (h2 : starEach [e2] L.X.env = (false, eval e2 L.X.env) :: starEach [] L.X.env := by rfl)
    (h3 : (backTo qr (starEach [e2] L.X.env)).any (·.1) = false := by rfl)
    (h0 : starEach [.Call (.Name "range" pr) [e, e2] [] qr] L.X.env = (false, eval (.Call (.Name "range" pr) [e, e2] [] qr) L.X.env) :: starEach [] L.X.env := by rfl) : PE L.X (.Call (.Name "list" p) [.Call (.Name "range" pr) [e, e2] [] qr] [] pos) (tE L (eLR2 f g)) := e_lr2 (pe_listRg hc hgl hl (prg_2 hg hm ha hb h1 h2 h3) h0)
theorem i_enu {elts : List Expr} {kk : Nat} {tp : Pos} (hm : L.X.mg "enumerate" = none) (ha : PE L.X e (tE L f)) (hg : Gl L.X "enumerate" := by rfl) (h1 : starEach [e] L.X.env = [(false, eval e L.X.env)] := by rfl) : PI L.X (.Tuple elts kk tp) (.Call (.Name "enumerate" p) [e] [] pos) (tI L (iEnA f)) := i_enA (pi_enumA hg hm (pa_cons (e_z ha) pa_nil h1) h1)
theorem i_zip {elts : List Expr} {kk : Nat} {tp : Pos} (hm : L.X.mg "zip" = none) (ha : PE L.X e (tE L f)) (hb : PE L.X e2 (tE L g)) (hg : Gl L.X "zip" := by rfl) (h1 : starEach [e, e2] L.X.env = (false, eval e L.X.env) :: starEach [e2] L.X.env := by rfl) (h2 : starEach [e2] L.X.env = (false, eval e2 L.X.env) :: starEach [] L.X.env := by rfl)
    (h3 : (backTo pos (starEach [e2] L.X.env)).any (·.1) = false := by rfl) : PI L.X (.Tuple elts kk tp) (.Call (.Name "zip" p) [e, e2] [] pos) (tI L (iZp f g)) := i_zp (RZ.pi_zipA hg hm (pa_cons (e_z ha) (pa_cons (e_z hb) pa_nil h2) h1) h1 h3)
/-! calls of defs -/
theorem passF {X : Cx} : Passes (L2.CX X.prog X.w) X (fun _ _ _ => False) := fun _ _ _ _ _ _ _ h => by
  obtain ⟨_, _, _, _, _, _, _, _, _, _, _, _, z⟩ := h
  exact z.elim
theorem cl {mo : Option Nat} {k k' : Nat} {fa : Addr} {fd : FuncData} {ps : List Str} {F : FSem} {x : Str} (FG : FnG L.X.prog L.X.w L.X.K L.X.mg L.X.base k fa fd ps (spF L.X.K L.X.mg mo.toList ps.length F)) (hr : RoomG k' L.X.A) (hkk : k ≤ k') (hx : Passes (L2.CX L.X.prog L.X.w) L.X L.E) (hm : L.X.mg x = some (.ref fa)) (hk : PySem.W.keepIn L.X.K (.ref fa) = true)
    (hb : Binds L.X.K fd ps []) (hm0 : ∀ m, mo = some m → m < ps.length) (ha : PA L.X (e :: es) (tA L (aS fs))) (hn : (e :: es).length = ps.length := by rfl) (hf : fs.length = (e :: es).length := by rfl) (hg : Gl L.X x := by rfl) (hdb : (x == ("__debug__" : Str)) = false := by decide)
    (he : starEach (e :: es) L.X.env = (false, eval e L.X.env) :: starEach es L.X.env := by rfl) (hpl : (backTo pos (starEach es L.X.env)).any (·.1) = false := by rfl) : PE L.X (.Call (.Name x p) (e :: es) [] pos) (tE L (fC mo F (aS fs))) :=
  e_call FG (hr.mono hkk) hx hg hm hk hb hm0 hn hf ha hdb he hpl
theorem fc {kws : List Keyword} {ks : List Str} {gs : List ESem} (ha : PA L.X (e :: es) (tA L (aS fs))) (hkw : PK L.X kws (tA L (aS gs))) (hks : (backToKw pos (keywordEach kws L.X.env)).filterMap (·.1) = ks := by rfl) (hall : (backToKw pos (keywordEach kws L.X.env)).all (·.1.isSome) = true := by rfl)
    (hplain : ((backTo pos (starEach (e :: es) L.X.env)).any (·.1) || (backToKw pos (keywordEach kws L.X.env)).any (·.1.isNone)) = false := by rfl) (he : starEach (e :: es) L.X.env = (false, eval e L.X.env) :: starEach es L.X.env := by rfl) : Fo L pos (e :: es) kws fs gs ks := fo_cons ha hkw hks hall hplain he
theorem fn0 {kws : List Keyword} {ks : List Str} {gs : List ESem} (hkw : PK L.X kws (tA L (aS gs))) (hks : (backToKw pos (keywordEach kws L.X.env)).filterMap (·.1) = ks := by rfl) (hall : (backToKw pos (keywordEach kws L.X.env)).all (·.1.isSome) = true := by rfl)
    (hplain : ((backTo pos (starEach [] L.X.env)).any (·.1) || (backToKw pos (keywordEach kws L.X.env)).any (·.1.isNone)) = false := by rfl) : Fo L pos [] kws [] gs ks := fo_nil hkw hks hall hplain
end
end Mv
end S21_

section S22_
set_option Elab.async false
set_option linter.all false
set_option maxRecDepth 100000
namespace Mv
open PySem PySem.Spec PyProof.Rows L2

/-! ### statements in short -/
theorem lt_n {l : List Str} {n i : Nat} (h : l.length = n) (hi : i < n) : i < l.length := h.symm ▸ hi
theorem pt_it {l : List ESem} {n : Nat} (h : l.length = n) : ∀ Γ ds Γ', aS l Γ = .ok ds Γ' → ds.length = n := fun Γ ds Γ' e => (aS_len l Γ ds Γ' e).trans h
section
variable {L : Lx} {pos : Pos}
theorem tv {f : ESem} {e : Expr} (h : PE L.X e (tE L f)) (he : ∀ whole, isTrue e L.X.env whole = (do let v ← whole; standAt e.pos; holding [v] (truthy v)) := by intro _; rfl) : PT L.X e (tT L (tV f)) := t_val h he
theorem sx {f : ESem} {e : Expr} (h : PE L.X e (tE L f)) (hs : swapsWith e none pos.line L.X.env = pure false := by rfl) : PS L.X (.Expr e pos) (tS L (dropS f)) := s_expr h hs
/-- what stands at a global name -/
theorem gi {x : Str} {p : PV} {v : V} (h : ∃ u, L.X.mg x = some u ∧ RelV v u) (hp : ∀ H, Rp L.X.K L.X.mg H p v) (hg : Gl L.X x := by rfl) (hd : (x == ("__debug__" : Str)) = false := by decide) : PE L.X (.Name x pos) (tE L (eC p)) := e_c (C8.pe_gc hg h hd) hp
theorem sf {iter tg : Expr} {body : List Stmt} {it : ISem} {t : GSem} {b : SSem} (hp : PassesOwn (model L.X.prog L.X.w) L.X.A L.X.env L.X.xe) (hc : L.X.calm = true) (hi : PI L.X tg iter (tI L it)) (hg : PG L.X tg (tG L t)) (hb : PSs L.X body (tS L b))
    (hs : ∀ x, foldedSetIterable iter L.X.env x = pure x := by intro _; rfl) : PS L.X (.For tg iter body [] pos) (tS L (forS it t [] b)) := s_for hp hc hi hg hb hs
theorem sw {c : Expr} {body : List Stmt} {t : TSem} {b : SSem} (hp : PassesOwn (model L.X.prog L.X.w) L.X.A L.X.env L.X.xe) (hc : PT L.X c (tT L t)) (hb : PSs L.X body (tS L b)) : PS L.X (.While c body [] pos) (tS L (whileS t [] b)) := s_while hp hc hb
theorem gc {e : Expr} {es : List Expr} {t : GSem} {u : List PV → Env → Option Env} (h1 : PG L.X e (tG L t)) (h2 : PGs L.X es (tGs L u)) (hs : (assignEach (e :: es) L.X.env).map (·.2) = assign e L.X.env :: (assignEach es L.X.env).map (·.2) := by rfl) : PGs L.X (e :: es) (tGs L (gs1 t u)) := gs_cons h1 h2 hs
theorem gvc {ws : List Nat} {e : Expr} {es : List Expr} {t : GSem} {u : List PV → Env → Option Env} (h1 : PG L.X e (tGv L ws t)) (h2 : PGs L.X es (tGvs L ws u)) (hs : (assignEach (e :: es) L.X.env).map (·.2) = assign e L.X.env :: (assignEach es L.X.env).map (·.2) := by rfl) : PGs L.X (e :: es) (tGvs L ws (gs1 t u)) := gvs_cons h1 h2 hs
theorem gx {j : Nat} {x : Str} {px : Pos} {b : Expr} {f : ESem} (hv : PE L.X (.Name x px) (tVar j)) (hb : PE L.X b (tE L f))
    (ha : ∀ v, assign (.Subscript (.Name x px) b pos) L.X.env v = (do
      let ov ← holding [v] (eval (.Name x px) L.X.env)
      let iv ← holding [v, ov] (eval b L.X.env)
      standAt pos
      holding [v, ov, iv] (setItem ov iv v)
      release [v, ov, iv] []) := by intro _; rfl) : PG L.X (.Subscript (.Name x px) b pos) (tG L (gI stS j f)) := g_ix stS_w set_list hv hb ha
theorem ix {a b : Expr} {f g : ESem} (ha : PE L.X a (tE L f)) (hb : PE L.X b (tE L g)) (hs : PlainIx b := by intro _ _; rfl) : PE L.X (.Subscript a b pos) (tE L (eBin ixS f g)) := e_ix ha hb hs
end
theorem passO {P : Program} {w : World} {K : PySem.W.Frag} {mg : Str → Option Value} {base : Heap} {N : List Str} {qual : Str} {scope : Scope} {f : Addr} {cd : Value} {A : Around} {outer : List PySem.Env} {s : Shared} {H : Hp} {E : XK} :
    Passes (L2.CX P w) (cxOf (L2.CX P w) P w K mg base N qual scope f cd A outer s H E) E := passes_call (L2.takes_of rfl rfl rfl rfl) fun _ _ _ _ h => h
theorem passL {P : Program} {w : World} {K : PySem.W.Frag} {mg : Str → Option Value} {base : Heap} {N : List Str} {qual : Str} {scope : Scope} {f : Addr} {cd : Value} {A : Around} {outer : List PySem.Env} {s : Shared} {H : Hp} {E : XK} :
    PassesOwn (model P w) (cxOf (L2.CX P w) P w K mg base N qual scope f cd A outer s H E).A (cxOf (L2.CX P w) P w K mg base N qual scope f cd A outer s H E).env (cxOf (L2.CX P w) P w K mg base N qual scope f cd A outer s H E).xe := passes_of rfl

/-! ### defs as facts -/
def DefAt (K : PySem.W.Frag) (mg : Str → Option Value) (x : Str) (st : Stmt) : Prop := ∃ f fd, Fun K x x st f fd ∧ mg x = some (.ref f)
/-- a def's promise, found by its name; qual: its qualified name -/
def OkD (P : Program) (w : World) (K : PySem.W.Frag) (mg : Str → Option Value) (base : Heap) (k : Nat) (x : Str) (st : Stmt) (ps : List Str) (ms : List Nat) (F : FSem) : Prop :=
  ∃ f fd, Fun K x x st f fd ∧ mg x = some (.ref f) ∧ FnG P w K mg base k f fd ps (spF K mg ms ps.length F)
theorem okD {P : Program} {w : World} {K : PySem.W.Frag} {mg : Str → Option Value} {base : Heap} {x : Str} {st : Stmt} {N ps : List Str} {ms : List Nat} {b : SSem} {k : Nat} (D : DefAt K mg x st) (S : FnScope N ps (defScope st))
    (hbody : ∀ (f : Addr) (cdv : Value) (A : Around) (outer : List PySem.Env) (s : Shared) (H : Hp) (vs : List V) (E : XK), RoomG k (A.deeper (envOfC x (defScope st) s.heap.objs.size f cdv)) →
      PSs (lxOf P w K mg base N x (defScope st) f cdv A outer s H E ms vs).X (defBody st) (tS (lxOf P w K mg base N x (defScope st) f cdv A outer s H E ms vs) b)) : OkD P w K mg base (k + 1) x st ps ms (fnS N.length ms b) := by
  obtain ⟨f, fd, F, m⟩ := D
  exact ⟨f, fd, F, m, okG F S (hbody f)⟩
/-- how a call by position binds -/
abbrev BnD (x : Str) (st : Stmt) (ps : List Str) : Prop := ∀ (kV doc pm : Value) (an : Option Addr) (cdv ct : Value) (us : List Value), us.length = ps.length → bindArgs (PySem.W.fnOf x x (defArgs st) (defBody st) (defScope st) .none kV doc pm an cdv ct) ⟨us, []⟩ = pure (ps.zip us)
abbrev BnK (x qual : Str) (st : Stmt) (ps : List Str) (n1 : Nat) (ks : List Str) (pi : List Nat) : Prop :=
  ∀ (kV doc pm : Value) (an : Option Addr) (cdv ct : Value) (us1 us2 : List Value), us1.length = n1 → us2.length = ks.length → bindArgs (PySem.W.fnOf x qual (defArgs st) (defBody st) (defScope st) .none kV doc pm an cdv ct) ⟨us1, ks.zip us2⟩ = pure (ps.zip (pick pi (us1 ++ us2)))
abbrev BnN (x qual : Str) (st : Stmt) (ps : List Str) (n1 : Nat) (ks : List Str) (pi : List Nat) : Prop :=
  ∀ (kV doc pm : Value) (an : Option Addr) (cdv ct : Value) (y : Value) (us1 us2 : List Value), us1.length = n1 → us2.length = ks.length → bindArgs (PySem.W.fnOf x qual (defArgs st) (defBody st) (defScope st) .none kV doc pm an cdv ct) ⟨y :: us1, ks.zip us2⟩ = pure (ps.zip (y :: pick pi (us1 ++ us2)))
section
variable {L : Lx} {pos p apos : Pos} {e o : Expr} {es : List Expr} {fs gs : List ESem} {x m : Str} {st : Stmt} {ps ks : List Str} {F : FSem} {k k' n1 : Nat} {kws : List Keyword} {pi : List Nat}
theorem cD {mo : Option Nat} (D : OkD L.X.prog L.X.w L.X.K L.X.mg L.X.base k x st ps mo.toList F) (B : BnD x st ps) (hr : RoomG k' L.X.A) (hkk : k ≤ k') (hx : Passes (L2.CX L.X.prog L.X.w) L.X L.E) (hm0 : ∀ m, mo = some m → m < ps.length) (ha : PA L.X (e :: es) (tA L (aS fs))) (hn : (e :: es).length = ps.length := by rfl) (hf : fs.length = (e :: es).length := by rfl) (hg : Gl L.X x := by rfl) (hdb : (x == ("__debug__" : Str)) = false := by decide)
    (he : starEach (e :: es) L.X.env = (false, eval e L.X.env) :: starEach es L.X.env := by rfl) (hpl : (backTo pos (starEach es L.X.env)).any (·.1) = false := by rfl) : PE L.X (.Call (.Name x p) (e :: es) [] pos) (tE L (fC mo F (aS fs))) := by
  obtain ⟨f, fd, FF, mm, FG⟩ := D
  exact cl FG hr hkk hx mm FF.kp (FF.binds B) hm0 ha hn hf hg hdb he hpl
theorem cK {mo : Option Nat} (D : OkD L.X.prog L.X.w L.X.K L.X.mg L.X.base k x st ps mo.toList F) (B : BnK x x st ps n1 ks pi) (hr : RoomG k' L.X.A) (hkk : k ≤ k') (hx : Passes (L2.CX L.X.prog L.X.w) L.X L.E) (hm0 : ∀ m, mo = some m → m < ps.length) (fo : Fo L pos es kws fs gs ks)
    (hpi : ∀ i ∈ pi, i < n1 + ks.length) (hn1 : fs.length = n1 := by rfl) (hn2 : gs.length = ks.length := by rfl) (hpl : pi.length = ps.length := by rfl) (hg : Gl L.X x := by rfl) (hdb : (x == ("__debug__" : Str)) = false := by decide) : PE L.X (.Call (.Name x p) es kws pos) (tE L (fCK mo F pi (aS (fs ++ gs)))) := by
  obtain ⟨f, fd, FF, mm, FG⟩ := D
  exact e_callG FG (hr.mono hkk) hx hg mm FF.kp (bindP FF B) hm0 fo hn1 hn2 hpi hpl hdb
end

/-! ### what isinstance asks of a class -/
theorem kit_self {K : PySem.W.Frag} {C : Addr} : PySem.W.kitOne K (.ref C) (.ref C) = some true := by
  unfold PySem.W.kitOne
  rw [if_pos (by show (Value.ref C == Value.ref C) = true; simp)]
theorem kit_refT {K : PySem.W.Frag} {C : Addr} {T : String} {b : Bool} (h : PySem.W.subIn K (.ref C) (.type T) = some b) (hm : PySem.W.kitMeta T = true) : PySem.W.kitOne K (.ref C) (.type T) = some b := by
  unfold PySem.W.kitOne PySem.W.kitCls
  rw [if_neg (by show ¬ (Value.ref C == Value.type T) = true; simp)]
  show (if PySem.W.kitMeta T = true then _ else _) = _
  rw [if_pos hm]
  exact h
theorem kit_tyR {K : PySem.W.Frag} {C : Addr} {T : String} {b : Bool} (hd : PySem.W.hasDictIn K C = true) (ht : PySem.W.typeIn K (.ref C) = some (.type "type")) (h : PySem.W.subIn K (.type T) (.ref C) = some b) : PySem.W.kitOne K (.type T) (.ref C) = some b := by
  unfold PySem.W.kitOne PySem.W.kitCls
  rw [if_neg (by show ¬ (Value.type T == Value.ref C) = true; simp)]
  show (if _ then _ else _) = _
  rw [if_pos]
  · exact h
  · rw [Bool.and_eq_true]
    refine ⟨?_, ?_⟩
    · obtain ⟨cd, hc, _⟩ := PySem.W.any_some hd
      rw [hc]; rfl
    · rw [ht]; rfl
/-! ### own classes as facts -/
/-- what of a class is known; st: its __init__ -/
structure ClsAt (K : PySem.W.Frag) (mg : Str → Option Value) (c : Str) (C : Addr) : Prop where
  m : mg c = some (.ref C)
  i : C8.InsC K C
structure IniAt (K : PySem.W.Frag) (C : Addr) (qual : Str) (st : Stmt) (f : Addr) (fd : FuncData) : Prop where
  k : L2.Mk K C f
  F : Fun K "__init__" qual st f fd
structure PrpAt (K : PySem.W.Frag) (C : Addr) (x qual : Str) (st : Stmt) (p f : Addr) (fd : FuncData) : Prop where
  p : PropOf K C x p f
  F : Fun K x qual st f fd
structure MthAt (K : PySem.W.Frag) (C : Addr) (x qual : Str) (st : Stmt) (f : Addr) (fd : FuncData) : Prop where
  m : Meth K C x f
  F : Fun K x qual st f fd
/-- the promise of __init__ -/
def OkI (P : Program) (w : World) (K : PySem.W.Frag) (mg : Str → Option Value) (base : Heap) (k : Nat) (c qual : Str) (st : Stmt) (ps : List Str) (F : FSem) : Prop :=
  ∃ C f fd, ClsAt K mg c C ∧ IniAt K C qual st f fd ∧ FnG P w K mg base k f fd ps (spF K mg [0] ps.length F)
def OkP (P : Program) (w : World) (K : PySem.W.Frag) (mg : Str → Option Value) (base : Heap) (k : Nat) (c x qual : Str) (st : Stmt) (ps : List Str) (F : FSem) : Prop :=
  ∃ C p f fd, ClsAt K mg c C ∧ PrpAt K C x qual st p f fd ∧ FnG P w K mg base k f fd ps (spF K mg [] ps.length F)
def OkM (P : Program) (w : World) (K : PySem.W.Frag) (mg : Str → Option Value) (base : Heap) (k : Nat) (c x qual : Str) (st : Stmt) (ps : List Str) (F : FSem) : Prop :=
  ∃ C f fd, ClsAt K mg c C ∧ MthAt K C x qual st f fd ∧ FnG P w K mg base k f fd ps (spF K mg [] ps.length F)
section
variable {P : Program} {w : World} {K : PySem.W.Frag} {mg : Str → Option Value} {base : Heap} {c x qual : Str} {st : Stmt} {N ps : List Str} {b : SSem} {k : Nat} {C f : Addr} {fd : FuncData}
abbrev BodyOk (P : Program) (w : World) (K : PySem.W.Frag) (mg : Str → Option Value) (base : Heap) (k : Nat) (qual : Str) (st : Stmt) (N : List Str) (ms : List Nat) (b : SSem) : Prop :=
  ∀ (f : Addr) (cdv : Value) (A : Around) (outer : List PySem.Env) (s : Shared) (H : Hp) (vs : List V) (E : XK), RoomG k (A.deeper (envOfC qual (defScope st) s.heap.objs.size f cdv)) →
      PSs (lxOf P w K mg base N qual (defScope st) f cdv A outer s H E ms vs).X (defBody st) (tS (lxOf P w K mg base N qual (defScope st) f cdv A outer s H E ms vs) b)
theorem okI (c0 : ClsAt K mg c C) (i0 : IniAt K C qual st f fd) (S : FnScope N ps (defScope st)) (hb : BodyOk P w K mg base k qual st N [0] b) : OkI P w K mg base (k + 1) c qual st ps (fnS N.length [0] b) :=
  ⟨C, f, fd, c0, i0, okG i0.F S (hb f)⟩
theorem okP {p : Addr} (c0 : ClsAt K mg c C) (i0 : PrpAt K C x qual st p f fd) (S : FnScope N ps (defScope st)) (hb : BodyOk P w K mg base k qual st N [] b) : OkP P w K mg base (k + 1) c x qual st ps (fnS N.length [] b) :=
  ⟨C, p, f, fd, c0, i0, okG i0.F S (hb f)⟩
theorem okM (c0 : ClsAt K mg c C) (i0 : MthAt K C x qual st f fd) (S : FnScope N ps (defScope st)) (hb : BodyOk P w K mg base k qual st N [] b) : OkM P w K mg base (k + 1) c x qual st ps (fnS N.length [] b) :=
  ⟨C, f, fd, c0, i0, okG i0.F S (hb f)⟩
theorem fldOk1 {f : Str} (c0 : ClsAt K mg c C) (n : NoAttr K C f) : FldOk K mg (fun x => x == c) f := fun c' C' h m => by
  have e : c' = c := beq_iff_eq.mp h
  subst e
  rw [c0.m] at m
  cases m
  exact ⟨c0.i.cl, n⟩
theorem isi1 {u : Value} {r : Bool} (c0 : ClsAt K mg c C) (h : PySem.W.kitOne K (.ref C) u = some r) : ∀ c' b C', (fun x => if x = c then some r else none) c' = some b → mg c' = some (.ref C') → C8.InsC K C' ∧ PySem.W.kitOne K (.ref C') u = some b := fun c' b C' e m => by
  have e : (if c' = c then some r else none) = some b := e
  by_cases z : c' = c
  · rw [if_pos z] at e
    have e9 : r = b := Option.some.inj e
    subst z
    rw [c0.m] at m
    cases m
    subst e9
    exact ⟨c0.i, h⟩
  · rw [if_neg z] at e; cases e
end
section
variable {L : Lx} {pos p apos : Pos} {e o : Expr} {es : List Expr} {fs gs : List ESem} {x m c qual : Str} {st : Stmt} {ps ks : List Str} {F : FSem} {k k' n1 : Nat} {kws : List Keyword} {pi : List Nat} {g : ESem}
theorem nC (O : OkI L.X.prog L.X.w L.X.K L.X.mg L.X.base k c qual st ps F) (B : BnN "__init__" qual st ps n1 ks pi) (hr : RoomG k' L.X.A) (hkk : k + 1 ≤ k') (hx : Passes (L2.CX L.X.prog L.X.w) L.X L.E) (fo : Fo L pos es kws fs gs ks) (hpi : ∀ i ∈ pi, i < n1 + ks.length) (hn1 : fs.length = n1 := by rfl) (hn2 : gs.length = ks.length := by rfl)
    (hpl : pi.length + 1 = ps.length := by rfl) (hg : Gl L.X c := by rfl) (hdb : (c == ("__debug__" : Str)) = false := by decide) : PE L.X (.Call (.Name c p) es kws pos) (tE L (eNewK c F pi (aS (fs ++ gs)))) := by
  obtain ⟨C, f, fd, c0, i0, FG⟩ := O
  exact e_newG ⟨i0.k, c0.m⟩ FG (hr.mono hkk) hx hg (bindN i0.F B) fo hn1 hn2 hpi hpl hdb
theorem pC (O : OkP L.X.prog L.X.w L.X.K L.X.mg L.X.base k c x qual st ps F) (B : ∀ (kV doc pm : Value) (an : Option Addr) (cdv ct : Value) (us : List Value), us.length = ps.length → bindArgs (PySem.W.fnOf x qual (defArgs st) (defBody st) (defScope st) .none kV doc pm an cdv ct) ⟨us, []⟩ = pure (ps.zip us)) (hr : RoomG k' L.X.A) (hkk : k + 1 ≤ k') (he : PE L.X o (tE L g)) (hps : ps.length = 1 := by rfl)
    (hab : attributeBase o x L.X.env (eval o L.X.env) = eval o L.X.env := by rfl) : PE L.X (.Attribute o x pos) (tE L (ePrp (fun y => y == c) F g)) := by
  obtain ⟨C, pp, f, fd, c0, i0, FG⟩ := O
  refine e_prp (fun c' C' h m => ?_) FG (hr.mono hkk) hps he (i0.F.binds B) hab
  have e : c' = c := beq_iff_eq.mp h
  subst e
  rw [c0.m] at m
  cases m
  exact ⟨c0.i.cl, pp, i0.p⟩
theorem mC {pl : Sem Bool} (O : OkM L.X.prog L.X.w L.X.K L.X.mg L.X.base k c m qual st ps F) (B : BnN m qual st ps n1 ks pi) (hr : RoomG k' L.X.A) (hkk : k ≤ k') (hx : Passes (L2.CX L.X.prog L.X.w) L.X L.E) (he : PE L.X o (tE L g)) (fo : Fo L pos es kws fs gs ks) (hpi : ∀ i ∈ pi, i < n1 + ks.length)
    (ht : eval (.Call (.Attribute o m apos) es kws pos) L.X.env = (do
      let ov ← eval o L.X.env
      standAt apos.atName
      let (f, first) ← holding [ov] (getMethod ov m pl)
      callWith pos f first (backTo pos (starEach es L.X.env)) (backToKw pos (keywordEach kws L.X.env))) := by rfl) (hn1 : fs.length = n1 := by rfl) (hn2 : gs.length = ks.length := by rfl) (hpl : pi.length + 1 = ps.length := by rfl) :
    PE L.X (.Call (.Attribute o m apos) es kws pos) (tE L (eMth (fun y => y == c) m F pi g (aS (fs ++ gs)))) := by
  obtain ⟨C, f, fd, c0, i0, FG⟩ := O
  refine e_mth (fun c' C' h m => ?_) FG (hr.mono hkk) hx he (bindN i0.F B) fo hn1 hn2 hpi hpl ht
  have e : c' = c := beq_iff_eq.mp h
  subst e
  rw [c0.m] at m
  cases m
  exact ⟨c0.i.cl, i0.m⟩
end
end Mv
end S22_

section S23_
set_option Elab.async false
set_option linter.all false
set_option maxRecDepth 100000
namespace Mv
open PySem PySem.Spec PyProof.Rows L2

/-! ### meanings, reckoned -/
@[simp] theorem bind_ok {α β : Type} (a : α) (Γ : Env) (k : α → Env → Rs β) : (Rs.ok a Γ).bind k = k a Γ := rfl
@[simp] theorem fl_ok {α : Type} (a : α) (Γ : Env) (k : α → Env → Fl) : (Rs.ok a Γ).fl k = k a Γ := rfl
@[simp] theorem seq_nx (Γ : Env) (k : Env → Fl) : (Fl.nx Γ).seq k = k Γ := rfl
@[simp] theorem seq_rt (d : Opd) (Γ : Env) (k : Env → Fl) : (Fl.rt d Γ).seq k = .rt d Γ := rfl
@[simp] theorem seqS_ap (f g : SSem) (Γ : Env) : seqS f g Γ = (f Γ).seq g := rfl
@[simp] theorem asgS_ap (i : Nat) (f : ESem) (Γ : Env) : asgS i f Γ = (f Γ).fl (bindS i) := rfl
@[simp] theorem retS_ap (f : ESem) (Γ : Env) : retS f Γ = (f Γ).fl .rt := rfl
@[simp] theorem dropS_ap (f : ESem) (Γ : Env) : dropS f Γ = (f Γ).fl fun _ Γ' => .nx Γ' := rfl
@[simp] theorem skipS_ap (Γ : Env) : skipS Γ = .nx Γ := rfl
@[simp] theorem ifS_ap (c : TSem) (s1 s2 : SSem) (Γ : Env) : ifS c s1 s2 Γ = (c Γ).fl fun b Γ' => if b then s1 Γ' else s2 Γ' := rfl
@[simp] theorem forS_ap (it : ISem) (tg : GSem) (kl : List Nat) (b : SSem) (Γ : Env) : forS it tg kl b Γ = (it Γ).fl fun ps Γ' => loopL tg kl b ps Γ' := rfl
@[simp] theorem eC_ap (p : PV) (Γ : Env) : eC p Γ = .ok (.val p) Γ := rfl
@[simp] theorem eBin_ap (op : PV → PV → Option Rv) (f g : ESem) (Γ : Env) : eBin op f g Γ = (f Γ).bind fun d1 Γ1 => (g Γ1).bind fun d2 Γ2 => lift2 op d1 d2 Γ2 := rfl
@[simp] theorem eUn_ap (op : PV → Option Rv) (f : ESem) (Γ : Env) : eUn op f Γ = (f Γ).bind fun d1 Γ1 => lift1 op d1 Γ1 := rfl
@[simp] theorem eB_ap (op : List PV → Option Rv) (a : ASem) (Γ : Env) : eB op a Γ = (a Γ).bind (liftN op) := rfl
@[simp] theorem aS_nil_ap (Γ : Env) : aS [] Γ = .ok [] Γ := rfl
@[simp] theorem aS_cons_ap (f : ESem) (fs : List ESem) (Γ : Env) : aS (f :: fs) Γ = (f Γ).bind fun d Γ1 => (aS fs Γ1).bind fun ds Γ2 => .ok (d :: ds) Γ2 := rfl
@[simp] theorem eZ_ap (f : ESem) (Γ : Env) : eZ f Γ = (f Γ).bind fz := rfl
@[simp] theorem eK_ap (f : ESem) (Γ : Env) : eK f Γ = (f Γ).bind kp := rfl
@[simp] theorem eT_ap (f : ESem) (Γ : Env) : eT f Γ = (f Γ).bind tmpZ := rfl
@[simp] theorem tV_ap (f : ESem) (Γ : Env) : tV f Γ = (f Γ).bind fun d Γ' => match vw Γ' d with | some (.bl b) => .ok b Γ' | _ => .no := rfl
@[simp] theorem tNotS_ap (f : TSem) (Γ : Env) : tNotS f Γ = (f Γ).bind fun b Γ' => .ok (!b) Γ' := rfl
@[simp] theorem tAndS_ap (f g : TSem) (Γ : Env) : tAndS f g Γ = (f Γ).bind fun b Γ' => if b then g Γ' else .ok false Γ' := rfl
@[simp] theorem tOrS_ap (f g : TSem) (Γ : Env) : tOrS f g Γ = (f Γ).bind fun b Γ' => if b then .ok true Γ' else g Γ' := rfl
@[simp] theorem eIfS_ap (t : TSem) (f g : ESem) (Γ : Env) : eIfS t f g Γ = (t Γ).bind fun b Γ' => if b then f Γ' else g Γ' := rfl
theorem le_sz {n : Nat} (h : n ≤ 16000000) : n ≤ sizeLine := Nat.le_trans h (by unfold sizeLine; decide)
theorem lt_sz {n : Nat} (h : n < 16000000) : n < sizeLine := Nat.lt_of_lt_of_le h (by unfold sizeLine; decide)
@[simp] theorem sz0 : (0 ≤ sizeLine) = True := eq_true (Nat.zero_le _)
@[simp] theorem sz1 : (1 ≤ sizeLine) = True := eq_true (le_sz (by decide))
@[simp] theorem sz2 : (2 ≤ sizeLine) = True := eq_true (le_sz (by decide))
@[simp] theorem sz3 : (3 ≤ sizeLine) = True := eq_true (le_sz (by decide))
@[simp] theorem sz4 : (4 ≤ sizeLine) = True := eq_true (le_sz (by decide))
@[simp] theorem sz5 : (5 ≤ sizeLine) = True := eq_true (le_sz (by decide))
@[simp] theorem sz6 : (6 ≤ sizeLine) = True := eq_true (le_sz (by decide))
@[simp] theorem sz7 : (7 ≤ sizeLine) = True := eq_true (le_sz (by decide))
@[simp] theorem sz8 : (8 ≤ sizeLine) = True := eq_true (le_sz (by decide))
@[simp] theorem sz9 : (9 ≤ sizeLine) = True := eq_true (le_sz (by decide))
@[simp] theorem sz10 : (10 ≤ sizeLine) = True := eq_true (le_sz (by decide))
@[simp] theorem sz11 : (11 ≤ sizeLine) = True := eq_true (le_sz (by decide))
@[simp] theorem sz12 : (12 ≤ sizeLine) = True := eq_true (le_sz (by decide))
@[simp] theorem sz13 : (13 ≤ sizeLine) = True := eq_true (le_sz (by decide))
@[simp] theorem sz14 : (14 ≤ sizeLine) = True := eq_true (le_sz (by decide))
@[simp] theorem sz15 : (15 ≤ sizeLine) = True := eq_true (le_sz (by decide))
@[simp] theorem sz16 : (16 ≤ sizeLine) = True := eq_true (le_sz (by decide))
@[simp] theorem oAdd_i (i j : Int) : oAdd (.int i) (.int j) = some (.val (.int (i + j))) := rfl
@[simp] theorem oAdd_l (p q : List PV) : oAdd (.lst p) (.lst q) = if p.length + q.length ≤ sizeLine then some (.tmp (.lst (p ++ q))) else none := rfl
@[simp] theorem oAdd_t (p q : List PV) : oAdd (.tup p) (.tup q) = if p.length + q.length ≤ sizeLine then some (.val (.tup (p ++ q))) else none := rfl
@[simp] theorem oSub_i (i j : Int) : oSub (.int i) (.int j) = some (.val (.int (i - j))) := rfl
@[simp] theorem oMul_i (i j : Int) : oMul (.int i) (.int j) = if mulOk i j || mulOkW i j then some (.val (.int (i * j))) else none := rfl
@[simp] theorem oMul_l (p : List PV) (k : Int) : oMul (.lst p) (.int k) = repL (.lst p) (.int k) := rfl
@[simp] theorem oMul_t (p : List PV) (k : Int) : oMul (.tup p) (.int k) = repTp (.tup p) (.int k) := rfl
@[simp] theorem oDiv_i (i j : Int) : oDiv (.int i) (.int j) = if decide (0 < j) && decide (j < 1073741824) then some (.val (.int (i / j))) else none := rfl
@[simp] theorem oMod_i (i j : Int) : oMod (.int i) (.int j) = if decide (0 < j) then some (.val (.int (i % j))) else none := rfl
@[simp] theorem oPow_i (i j : Int) : oPow (.int i) (.int j) = if decide (0 ≤ j) && decide (j ≤ 1000000) && decide (i.natAbs < 2 ^ 64) then some (.val (.int (i ^ j.toNat))) else none := rfl
@[simp] theorem oLt_i (i j : Int) : oLt (.int i) (.int j) = some (.val (.bl (decide (i < j)))) := rfl
@[simp] theorem oLe_i (i j : Int) : oLe (.int i) (.int j) = some (.val (.bl (decide (i ≤ j)))) := rfl
@[simp] theorem oGt_i (i j : Int) : oGt (.int i) (.int j) = some (.val (.bl (decide (j < i)))) := rfl
@[simp] theorem oGe_i (i j : Int) : oGe (.int i) (.int j) = some (.val (.bl (decide (j ≤ i)))) := rfl
@[simp] theorem op1_1 (f : PV → Option Rv) (p : PV) : op1 f [p] = f p := rfl
@[simp] theorem op2_2 (f : PV → PV → Option Rv) (p q : PV) : op2 f [p, q] = f p q := rfl
@[simp] theorem oLen_l (p : List PV) : oLen [.lst p] = some (.val (.int p.length)) := rfl
@[simp] theorem oLen_t (p : List PV) : oLen [.tup p] = some (.val (.int p.length)) := rfl
@[simp] theorem oMax2_i (i j : Int) : oMax2 [.int i, .int j] = some (.val (.int (if j > i then j else i))) := rfl
@[simp] theorem oMin2_i (i j : Int) : oMin2 [.int i, .int j] = some (.val (.int (if j < i then j else i))) := rfl
@[simp] theorem bAbs_i (i : Int) : bAbs (.int i) = some (.val (.int (if i < 0 then -i else i))) := rfl
@[simp] theorem bInt_i (i : Int) : bInt (.int i) = some (.val (.int i)) := rfl
@[simp] theorem bDivmod_i (i j : Int) : bDivmod (.int i) (.int j) = if divOk j then some (.val (.tup [.int (i / j), .int (i % j)])) else none := rfl
@[simp] theorem bList_l (p : List PV) : bList (.lst p) = some (.tmp (.lst p)) := rfl
@[simp] theorem bList_t (p : List PV) : bList (.tup p) = some (.tmp (.lst p)) := rfl
@[simp] theorem bTuple_l (p : List PV) : bTuple (.lst p) = some (.val (.tup p)) := rfl
@[simp] theorem bTuple_t (p : List PV) : bTuple (.tup p) = some (.val (.tup p)) := rfl
@[simp] theorem bSumL_i (ns : List Int) : bSumL (.lst (ns.map .int)) = some (.val (.int ns.sum)) := by
  have : intsL (ns.map PV.int) = some ns := by
    induction ns with
    | nil => rfl
    | cons n ns ih => show (intsL (ns.map PV.int)).map (n :: ·) = _; rw [ih]; rfl
  show (intsL (ns.map PV.int)).map _ = _
  rw [this]; rfl
@[simp] theorem bSortedL_i (ns : List Int) : bSortedL (.lst (ns.map .int)) = some (.tmp (.lst ((isort ns).map .int))) := by
  have : intsL (ns.map PV.int) = some ns := by
    induction ns with
    | nil => rfl
    | cons n ns ih => show (intsL (ns.map PV.int)).map (n :: ·) = _; rw [ih]; rfl
  show (intsL (ns.map PV.int)).map _ = _
  rw [this]; rfl
@[simp] theorem ixS_l (p : List PV) (i : Int) : ixS (.lst p) (.int i) = (L2.atI p i).map .val := rfl
@[simp] theorem ixS_t (p : List PV) (i : Int) : ixS (.tup p) (.int i) = (L2.atI p i).map .val := rfl
@[simp] theorem stS_l (p : List PV) (i : Int) (v : PV) : stS (.lst p) (.int i) v = (L2.ixN p.length i).map fun j => .lst (p.set j v) := rfl
@[simp] theorem oIsN_n (p : PV) : oIsN p .non = some (.val (.bl (isNonP p))) := rfl
@[simp] theorem oNotN_n (p : PV) : oNotN p .non = some (.val (.bl (!isNonP p))) := rfl
@[simp] theorem oNeg_i (i : Int) : oNeg (.int i) = some (.val (.int (-i))) := rfl
@[simp] theorem mAppend_l (p : List PV) (q : PV) : mAppend (.lst p) [q] = if p.length < sizeLine then some (.lst (p ++ [q]), .non) else none := rfl
theorem mPopAt_l {p : List PV} {r : Int} (h0 : 0 ≤ r) (h1 : r < p.length) (h2 : p.length ≤ 16777216) : mPopAt (.lst p) [.int r] = some (.lst (p.eraseIdx r.toNat), p.getD r.toNat .non) := by
  have hs : seqIndex? r p.length = some r.toNat := by
    unfold seqIndex?
    rw [if_neg (show ¬ r < 0 by omega)]
    simp [h0, h1]
  have e : (decide (-(2 ^ 63 : Int) ≤ r) && decide (r < (2 ^ 63 : Int))) = true := by
    rw [Bool.and_eq_true, decide_eq_true_eq, decide_eq_true_eq]
    have h3 : r < 16777217 := by omega
    constructor <;> omega
  have hr : r.toNat < p.length := by omega
  show (if (decide (-(2 ^ 63 : Int) ≤ r) && decide (r < (2 ^ 63 : Int))) = true then _ else _) = _
  rw [if_pos e, hs]
  show (p[r.toNat]?).map _ = _
  rw [List.getElem?_eq_getElem hr]
  simp [hr]
theorem rgSz_n {i j : Int} (h0 : -1000000 ≤ i) (h1 : i ≤ 1000000) (h2 : -1000000 ≤ j) (h3 : j ≤ 1000000) : rgSz i j = true := by
  unfold rgSz rgOk
  simp only [Bool.and_eq_true, decide_eq_true_eq]
  refine ⟨⟨⟨?_, ?_⟩, ?_, ?_⟩, ?_⟩ <;> omega
theorem rgOk_n {i : Int} (h0 : -1000000 ≤ i) (h1 : i ≤ 1000000) : rgOk i = true := by
  unfold rgOk
  simp only [Bool.and_eq_true, decide_eq_true_eq]
  constructor <;> omega
theorem iRg1_of {f : ESem} {Γ Γ' : Env} {d : Opd} {j : Int} (h : f Γ = .ok d Γ') (hv : vw Γ' d = some (.int j)) (hj : rgOk j = true) : iRg1 f Γ = .ok (rgL 0 j) Γ' := by
  unfold iRg1; rw [h, bind_ok]; simp only [hv]; rw [if_pos hj]
theorem iRg2_of {f g : ESem} {Γ Γ1 Γ' : Env} {d d2 : Opd} {i j : Int} (h : f Γ = .ok d Γ1) (h2 : g Γ1 = .ok d2 Γ') (hv : vw Γ' d = some (.int i)) (hv2 : vw Γ' d2 = some (.int j)) (hi : rgOk i = true) (hj : rgOk j = true) : iRg2 f g Γ = .ok (rgL i j) Γ' := by
  unfold iRg2; rw [h, bind_ok, h2, bind_ok]; simp only [hv, hv2]; rw [hi, hj]; rfl
theorem eLR1_of {f : ESem} {Γ Γ' : Env} {d : Opd} {j : Int} (h : f Γ = .ok d Γ') (hv : vw Γ' d = some (.int j)) (hj : rgSz 0 j = true) : eLR1 f Γ = .ok (.tmp (.lst (rgL 0 j))) Γ' := by
  unfold eLR1; rw [h, bind_ok]; simp only [hv]; rw [if_pos hj]
theorem eLR2_of {f g : ESem} {Γ Γ1 Γ' : Env} {d d2 : Opd} {i j : Int} (h : f Γ = .ok d Γ1) (h2 : g Γ1 = .ok d2 Γ') (hv : vw Γ' d = some (.int i)) (hv2 : vw Γ' d2 = some (.int j)) (hj : rgSz i j = true) : eLR2 f g Γ = .ok (.tmp (.lst (rgL i j))) Γ' := by
  unfold eLR2; rw [h, bind_ok, h2, bind_ok]; simp only [hv, hv2]; rw [if_pos hj]
theorem for_of {it : ISem} {tg : GSem} {kl : List Nat} {b : SSem} {Γ Γ1 : Env} {ps : List PV} {r : Fl} (h : it Γ = .ok ps Γ1) (h2 : loopL tg kl b ps Γ1 = r) : forS it tg kl b Γ = r := by
  unfold forS; rw [h]; exact h2
theorem eLst_of {a : ASem} {Γ Γ' : Env} {ds : List Opd} {ps : List PV} (h : a Γ = .ok ds Γ') (hv : valsO ds = some ps) (hl : ps.length ≤ sizeLine) : eLst a Γ = .ok (.tmp (.lst ps)) Γ' := by
  unfold eLst; rw [h, bind_ok]; simp only [hv]; rw [if_pos hl]
theorem eTup_of {a : ASem} {Γ Γ' : Env} {ds : List Opd} {ps : List PV} (h : a Γ = .ok ds Γ') (hv : valsO ds = some ps) (hl : ps.length ≤ sizeLine) : eTup a Γ = .ok (.val (.tup ps)) Γ' := by
  unfold eTup; rw [h, bind_ok]; simp only [hv]; rw [if_pos hl]
theorem eBin_of {op : PV → PV → Option Rv} {f g : ESem} {Γ Γ1 Γ2 : Env} {d1 d2 : Opd} {p q : PV} {r : Rv} (h1 : f Γ = .ok d1 Γ1) (h2 : g Γ1 = .ok d2 Γ2) (v1 : vw Γ2 d1 = some p) (v2 : vw Γ2 d2 = some q) (h : op p q = some r) : eBin op f g Γ = .ok r.opd Γ2 := by
  unfold eBin; rw [h1, bind_ok, h2, bind_ok]; unfold lift2; simp only [v1, v2, h]
theorem oAdd_of {p q : List PV} (h : p.length + q.length ≤ sizeLine) : oAdd (.lst p) (.lst q) = some (.tmp (.lst (p ++ q))) := by
  rw [oAdd_l, if_pos h]
theorem erase_map {α β : Type} (f : α → β) : ∀ (l : List α) (i : Nat), (l.map f).eraseIdx i = (l.eraseIdx i).map f
  | [], i => rfl
  | x :: l, 0 => rfl
  | x :: l, i + 1 => by show f x :: (l.map f).eraseIdx i = f x :: (l.eraseIdx i).map f; rw [erase_map f l i]
theorem erase_perm {α : Type} : ∀ (l : List α) (i : Nat) (h : i < l.length), (l[i] :: l.eraseIdx i).Perm l
  | [], i, h => by simp at h
  | x :: l, 0, _ => List.Perm.refl _
  | x :: l, i + 1, h => by
    have h' : i < l.length := by simpa using h
    show (l[i]'h' :: x :: l.eraseIdx i).Perm (x :: l)
    exact (List.Perm.swap _ _ _).trans ((erase_perm l i h').cons x)
@[simp] theorem eSl_ap (f : ESem) (l h : OSem) (Γ : Env) : eSl f l h Γ = (f Γ).bind fun d Γ1 => (l Γ1).bind fun lo Γ2 => (h Γ2).bind fun hi Γ3 => match (vw Γ3 d).bind fun p => slS p lo hi with | some r => .ok r.opd Γ3 | none => .no := rfl
@[simp] theorem oNo_ap (Γ : Env) : oNo Γ = .ok none Γ := rfl
@[simp] theorem oSome_ap (f : ESem) (Γ : Env) : oSome f Γ = (f Γ).bind fun d Γ' => match vw Γ' d with | some (.int i) => .ok (some i) Γ' | _ => .no := rfl
@[simp] theorem slS_l (p : List PV) (lo hi : Option Int) : slS (.lst p) lo hi = some (.tmp (.lst (cutP p lo hi))) := rfl
@[simp] theorem slS_t (p : List PV) (lo hi : Option Int) : slS (.tup p) lo hi = some (.val (.tup (cutP p lo hi))) := rfl
@[simp] theorem iSeq_ap (f : ESem) (Γ : Env) : iSeq f Γ = (eZ f Γ).bind fun d Γ' => match d with | .val (.lst ps) => .ok ps Γ' | .val (.tup ps) => .ok ps Γ' | _ => .no := rfl
@[simp] theorem eM_ap (kd : OV → Bool) (op : OV → List PV → Option (OV × PV)) (j : Nat) (a : ASem) (Γ : Env) : eM kd op j a Γ = (match Γ[j]? with
  | some (.ow o0) =>
    if kd o0 then
      (a Γ).bind fun ds Γ1 =>
        match valsO ds, Γ1[j]? with
        | some ps, some (.ow o) =>
          match op o ps with
          | some z => .ok (.val z.2) (Γ1.set j (.ow z.1))
          | none => .no
        | _, _ => .no
    else .no
  | _ => .no) := by
  unfold eM; rfl
@[simp] theorem fC_ap (mo : Option Nat) (F : FSem) (a : ASem) (Γ : Env) : fC mo F a Γ = (a Γ).bind (callS mo F) := rfl

/-! ### loops by invariants -/
theorem loop_inv {tg : GSem} {kl : List Nat} {b : SSem} (I : Env → Prop) : ∀ (ps : List PV) (Γ : Env), I Γ → (∀ p ∈ ps, ∀ Γ, I Γ → ∃ Γ1 Γ2, tg p Γ = some Γ1 ∧ b Γ1 = .nx Γ2 ∧ I (kill kl Γ2)) → ∃ Γ', loopL tg kl b ps Γ = .nx Γ' ∧ I Γ'
  | [], Γ, h, _ => ⟨Γ, rfl, h⟩
  | p :: ps, Γ, h, hs => by
    obtain ⟨Γ1, Γ2, e1, e2, h2⟩ := hs p List.mem_cons_self Γ h
    obtain ⟨Γ', e3, h3⟩ := loop_inv I ps _ h2 fun q hq => hs q (List.mem_cons_of_mem _ hq)
    exact ⟨Γ', by unfold loopL; simp only [e1, e2]; exact e3, h3⟩
theorem loop_idx {tg : GSem} {kl : List Nat} {b : SSem} (I : Nat → Env → Prop) : ∀ (ps : List PV) (k : Nat) (Γ : Env), I k Γ → (∀ (i : Nat) p Γ, ps[i]? = some p → I (k + i) Γ → ∃ Γ1 Γ2, tg p Γ = some Γ1 ∧ b Γ1 = .nx Γ2 ∧ I (k + i + 1) (kill kl Γ2)) → ∃ Γ', loopL tg kl b ps Γ = .nx Γ' ∧ I (k + ps.length) Γ'
  | [], k, Γ, h, _ => ⟨Γ, rfl, h⟩
  | p :: ps, k, Γ, h, hs => by
    obtain ⟨Γ1, Γ2, e1, e2, h2⟩ := hs 0 p Γ rfl h
    obtain ⟨Γ', e3, h3⟩ := loop_idx I ps (k + 1) _ h2 fun i q Γ hq hI => by
      have := hs (i + 1) q Γ (by simpa using hq) (by rw [show k + (i + 1) = k + 1 + i by omega]; exact hI)
      rw [show k + (i + 1) = k + 1 + i by omega] at this
      exact this
    refine ⟨Γ', by unfold loopL; simp only [e1, e2]; exact e3, ?_⟩
    rw [List.length_cons, show k + (ps.length + 1) = k + 1 + ps.length by omega]
    exact h3
theorem loop_idx0 {tg : GSem} {kl : List Nat} {b : SSem} (I : Nat → Env → Prop) (ps : List PV) (Γ : Env) (h : I 0 Γ) (hs : ∀ (i : Nat) p Γ, ps[i]? = some p → I i Γ → ∃ Γ1 Γ2, tg p Γ = some Γ1 ∧ b Γ1 = .nx Γ2 ∧ I (i + 1) (kill kl Γ2)) : ∃ Γ', loopL tg kl b ps Γ = .nx Γ' ∧ I ps.length Γ' := by
  have := loop_idx I ps 0 Γ h fun i p Γ hp hI => by
    rw [Nat.zero_add] at hI ⊢
    exact hs i p Γ hp hI
  rw [Nat.zero_add] at this
  exact this
/-- a loop over list items whose body keeps a state s: the items of xs, one after the other -/
theorem loop_fold {α σ : Type} {tg : GSem} {kl : List Nat} {b : SSem} (em : α → PV) (st : σ → Env) (step : σ → α → σ) : ∀ (xs : List α) (s : σ), (∀ s, ∀ x ∈ xs, ∃ Γ1 Γ2, tg (em x) (st s) = some Γ1 ∧ b Γ1 = .nx Γ2 ∧ kill kl Γ2 = st (step s x)) → loopL tg kl b (xs.map em) (st s) = .nx (st (xs.foldl step s))
  | [], s, _ => rfl
  | x :: xs, s, h => by
    obtain ⟨Γ1, Γ2, e1, e2, e3⟩ := h s x List.mem_cons_self
    show loopL tg kl b (em x :: xs.map em) (st s) = _
    unfold loopL
    simp only [e1, e2, e3]
    exact loop_fold em st step xs _ fun s y hy => h s y (List.mem_cons_of_mem _ hy)
@[simp] theorem kill_nil (Γ : Env) : kill [] Γ = Γ := rfl
/-- a comprehension's turns -/
theorem lc_idx {tg : GSem} {t : TSem} {f : ESem} {vs : List Nat} (I : Nat → List PV → Env → Prop) : ∀ (ps : List PV) (k : Nat) (acc : List PV) (Γ : Env), I k acc Γ →
    (∀ (i : Nat) p acc Γ, ps[i]? = some p → I (k + i) acc Γ → ∃ Γ1 b Γ2, tg p (wipeE Γ vs) = some Γ1 ∧ t Γ1 = .ok b Γ2 ∧ ((b = false ∧ I (k + i + 1) acc (wipeE Γ2 vs)) ∨ (b = true ∧ ∃ q Γ3, eZ f Γ2 = .ok (.val q) Γ3 ∧ acc.length < sizeLine ∧ I (k + i + 1) (acc ++ [q]) (wipeE Γ3 vs)))) →
    ∃ qs Γ', lcL tg t f vs ps acc Γ = .ok qs Γ' ∧ I (k + ps.length) qs Γ'
  | [], k, acc, Γ, h, _ => ⟨acc, Γ, rfl, h⟩
  | p :: ps, k, acc, Γ, h, hs => by
    have next : ∀ acc' Γ', I (k + 1) acc' Γ' → ∃ qs Γ'', lcL tg t f vs ps acc' Γ' = .ok qs Γ'' ∧ I (k + 1 + ps.length) qs Γ'' := fun acc' Γ' h' => lc_idx I ps (k + 1) acc' Γ' h' fun i q acc Γ hq hI => by
      have := hs (i + 1) q acc Γ (by simpa using hq) (by rw [show k + (i + 1) = k + 1 + i by omega]; exact hI)
      rw [show k + (i + 1) = k + 1 + i by omega] at this
      exact this
    rw [List.length_cons, show k + (ps.length + 1) = k + 1 + ps.length by omega]
    obtain ⟨Γ1, b, Γ2, e1, e2, h3 | h3⟩ := hs 0 p acc Γ rfl h
    · obtain ⟨rfl, h3⟩ := h3
      obtain ⟨qs, Γ'', e4, h4⟩ := next _ _ h3
      exact ⟨qs, Γ'', by unfold lcL; simp only [e1, e2]; exact e4, h4⟩
    · obtain ⟨rfl, q, Γ3, e3, hl, h3⟩ := h3
      obtain ⟨qs, Γ'', e4, h4⟩ := next _ _ h3
      exact ⟨qs, Γ'', by unfold lcL; simp only [e1, e2, e3, if_pos hl]; exact e4, h4⟩
/-- a comprehension without a test whose turns leave nothing behind -/
theorem lc_map {α : Type} {tg : GSem} {f : ESem} {vs : List Nat} (em : α → PV) (g : α → PV) (Γ : Env) : ∀ (xs : List α) (acc : List PV), (∀ x ∈ xs, ∃ Γ1 Γ3, tg (em x) (wipeE Γ vs) = some Γ1 ∧ eZ f Γ1 = .ok (.val (g x)) Γ3 ∧ wipeE Γ3 vs = Γ) → acc.length + xs.length ≤ sizeLine → lcL tg tYesS f vs (xs.map em) acc Γ = .ok (acc ++ xs.map g) Γ
  | [], acc, _, _ => by simp [lcL]
  | x :: xs, acc, h, hl => by
    obtain ⟨Γ1, Γ3, e1, e2, e3⟩ := h x List.mem_cons_self
    rw [List.length_cons] at hl
    show lcL tg tYesS f vs (em x :: xs.map em) acc Γ = _
    unfold lcL
    have e0 : tYesS Γ1 = .ok true Γ1 := rfl
    simp only [e1, e0, e2, if_pos (show acc.length < sizeLine by omega), e3]
    rw [lc_map em g Γ xs (acc ++ [g x]) (fun y hy => h y (List.mem_cons_of_mem _ hy)) (by rw [List.length_append, List.length_singleton]; omega), List.append_assoc]
    rfl
/-- .. with a test -/
theorem lc_filter {α : Type} {tg : GSem} {t : TSem} {f : ESem} {vs : List Nat} (em : α → PV) (c : α → Bool) (g : α → PV) (Γ : Env) : ∀ (xs : List α) (acc : List PV), (∀ x ∈ xs, ∃ Γ1 Γ2, tg (em x) (wipeE Γ vs) = some Γ1 ∧ t Γ1 = .ok (c x) Γ2 ∧ (c x = false → wipeE Γ2 vs = Γ) ∧ (c x = true → ∃ Γ3, eZ f Γ2 = .ok (.val (g x)) Γ3 ∧ wipeE Γ3 vs = Γ)) → acc.length + xs.length ≤ sizeLine → lcL tg t f vs (xs.map em) acc Γ = .ok (acc ++ (xs.filter c).map g) Γ
  | [], acc, _, _ => by simp [lcL]
  | x :: xs, acc, h, hl => by
    obtain ⟨Γ1, Γ2, e1, e2, h0, h1⟩ := h x List.mem_cons_self
    rw [List.length_cons] at hl
    show lcL tg t f vs (em x :: xs.map em) acc Γ = _
    unfold lcL
    cases hc : c x with
    | false =>
      simp only [e1, e2, hc, h0 hc]
      rw [lc_filter em c g Γ xs acc (fun y hy => h y (List.mem_cons_of_mem _ hy)) (by omega), List.filter_cons, hc]
      rfl
    | true =>
      obtain ⟨Γ3, e3, e4⟩ := h1 hc
      simp only [e1, e2, hc, e3, e4, if_pos (show acc.length < sizeLine by omega)]
      rw [lc_filter em c g Γ xs (acc ++ [g x]) (fun y hy => h y (List.mem_cons_of_mem _ hy)) (by rw [List.length_append, List.length_singleton]; omega), List.filter_cons, hc, List.append_assoc]
      rfl
@[simp] theorem intsL_map (ns : List Int) : intsL (ns.map PV.int) = some ns := by
  induction ns with
  | nil => rfl
  | cons n ns ih => show (intsL (ns.map PV.int)).map (n :: ·) = _; rw [ih]; rfl
@[simp] theorem blsL_map (ns : List Bool) : blsL (ns.map PV.bl) = some ns := by
  induction ns with
  | nil => rfl
  | cons n ns ih => show (blsL (ns.map PV.bl)).map (n :: ·) = _; rw [ih]; rfl
theorem cutP_map {α β : Type} (f : α → β) (xs : List α) (lo hi : Option Int) : cutP (xs.map f) lo hi = (cutP xs lo hi).map f := by
  unfold cutP
  rw [List.length_map, List.map_take, List.map_drop]
end Mv
end S23_

section S24_
set_option Elab.async false
set_option linter.all false
set_option maxRecDepth 100000
set_option exponentiation.threshold 2000
namespace Mv
open PySem PySem.Spec PyProof.Rows L2

/-! ### lists of ints as data, told as texts -/
def di (ns : List Int) : List PyData := ns.map PyData.int
theorem pds_ints : ∀ ns : List Int, pds (ns.map PV.int) = some (di ns)
  | [] => by unfold pds; rfl
  | n :: ns => by
    show pds (PV.int n :: ns.map PV.int) = _
    unfold pds
    rw [pds_ints ns]
    unfold pd
    rfl
theorem pd_lst (ns : List Int) : pd (.lst (ns.map PV.int)) = some (.list (di ns)) := by unfold pd; rw [pds_ints]; rfl
theorem pd_tup (ns : List Int) : pd (.tup (ns.map PV.int)) = some (.tuple (di ns)) := by unfold pd; rw [pds_ints]; rfl
theorem canLay_di : ∀ ns : List Int, PyData.canLayAll0 (di ns) = true
  | [] => by simp [di, PyData.canLayAll0]
  | n :: ns => by
    have := canLay_di ns
    simp [di, PyData.canLayAll0, PyData.canLay0] at this ⊢
    exact this
theorem depth_di : ∀ ns : List Int, PyData.depthAll (di ns) = 0
  | [] => by simp [di, PyData.depthAll]
  | n :: ns => by
    have := depth_di ns
    simp [di, PyData.depthAll, PyData.depth] at this ⊢
    exact this
theorem eqv_di : ∀ ns ms : List Int, PyData.eqvAll (di ns) (di ms) = decide (ns = ms)
  | [], [] => by simp [di, PyData.eqvAll]
  | [], m :: ms => by simp [di, PyData.eqvAll]
  | n :: ns, [] => by simp [di, PyData.eqvAll]
  | n :: ns, m :: ms => by
    have := eqv_di ns ms
    simp [di] at this
    simp [di, PyData.eqvAll, PyData.eqv, this]
    by_cases h : n = m <;> by_cases h2 : ns = ms <;> simp [h, h2]
theorem eqP_int (i j : Int) : eqP (.int i) (.int j) = some (decide (i = j)) := by
  unfold eqP pd
  simp [SeqAt.shaped, PyData.canLay0, PyData.depth, PyData.eqv]
  by_cases h : i = j <;> simp [h]
theorem eqP_str (i j : Str) (h1 : PyData.strOk i = true) (h2 : PyData.strOk j = true) : eqP (.str i) (.str j) = some (decide (i = j)) := by
  unfold eqP pd
  simp [SeqAt.shaped, PyData.canLay0, PyData.depth, PyData.eqv, h1, h2]
  by_cases h : i = j <;> simp [h]
theorem eqP_tups (ns ms : List Int) : eqP (.tup (ns.map PV.int)) (.tup (ms.map PV.int)) = some (decide (ns = ms)) := by
  unfold eqP
  rw [pd_tup, pd_tup]
  simp [SeqAt.shaped, PyData.canLay0, PyData.depth, PyData.eqv, canLay_di, depth_di, eqv_di]
theorem eqP_lsts (ns ms : List Int) : eqP (.lst (ns.map PV.int)) (.lst (ms.map PV.int)) = some (decide (ns = ms)) := by
  unfold eqP
  rw [pd_lst, pd_lst]
  simp [SeqAt.shaped, PyData.canLay0, PyData.depth, PyData.eqv, canLay_di, depth_di, eqv_di]
theorem oEq_ap {p q : PV} {b : Bool} (h : eqP p q = some b) : oEq p q = some (.val (.bl b)) := by unfold oEq; rw [h]; rfl
theorem oNe_ap {p q : PV} {b : Bool} (h : eqP p q = some b) : oNe p q = some (.val (.bl (!b))) := by unfold oNe; rw [h]; rfl
@[simp] theorem oEq_i (i j : Int) : oEq (.int i) (.int j) = some (.val (.bl (decide (i = j)))) := oEq_ap (eqP_int i j)
@[simp] theorem oNe_i (i j : Int) : oNe (.int i) (.int j) = some (.val (.bl (!decide (i = j)))) := oNe_ap (eqP_int i j)
@[simp] theorem oEq_t (i j : List Int) : oEq (.tup (i.map .int)) (.tup (j.map .int)) = some (.val (.bl (decide (i = j)))) := oEq_ap (eqP_tups i j)
@[simp] theorem oNe_t (i j : List Int) : oNe (.tup (i.map .int)) (.tup (j.map .int)) = some (.val (.bl (!decide (i = j)))) := oNe_ap (eqP_tups i j)
@[simp] theorem oEq_t0 (i : List Int) : oEq (.tup (i.map .int)) (.tup []) = some (.val (.bl (decide (i = [])))) := oEq_ap (eqP_tups i [])
@[simp] theorem oNe_t0 (i : List Int) : oNe (.tup (i.map .int)) (.tup []) = some (.val (.bl (!decide (i = [])))) := oNe_ap (eqP_tups i [])
@[simp] theorem oEq_l (i j : List Int) : oEq (.lst (i.map .int)) (.lst (j.map .int)) = some (.val (.bl (decide (i = j)))) := oEq_ap (eqP_lsts i j)
@[simp] theorem oNe_l (i j : List Int) : oNe (.lst (i.map .int)) (.lst (j.map .int)) = some (.val (.bl (!decide (i = j)))) := oNe_ap (eqP_lsts i j)
theorem log2_lt {n k : Nat} (h : n < 10 ^ k) (hk : k ≤ 500) : n.log2 < 1920 := by
  by_cases h0 : n = 0
  · subst h0; decide
  · refine (Nat.log2_lt h0).mpr (Nat.lt_of_lt_of_le h ?_)
    have h1 : 10 ^ k ≤ 10 ^ 500 := Nat.pow_le_pow_right (by decide) hk
    have h2 : (10 : Nat) ^ 500 ≤ 2 ^ 1920 := by decide +kernel
    exact Nat.le_trans h1 h2
/-- ints of at most k digits -/
def Dig (k : Nat) (ns : List Int) : Prop := ∀ n ∈ ns, n.natAbs < 10 ^ k
theorem showable_di {k : Nat} (hk : k ≤ 500) : ∀ {ns : List Int}, Dig k ns → PyData.showableAll (di ns) = true
  | [], _ => by simp [di, PyData.showableAll]
  | n :: ns, h => by
    have h1 := showable_di hk (ns := ns) fun m hm => h m (List.mem_cons_of_mem _ hm)
    have h2 := log2_lt (h n List.mem_cons_self) hk
    simp [di, PyData.showableAll, PyData.showable] at h1 ⊢
    exact ⟨h2, h1⟩
theorem strOk_of (s : String) : PyData.strOk (Str.ofString s) = true := by
  rw [Str.ofString_eq_toList]
  unfold PyData.strOk
  rw [Array.all_eq_true_iff_forall_mem]
  intro x hx
  simp at hx
  obtain ⟨c, _, rfl⟩ := hx
  have hv : c.val.toNat < 1114112 := by
    rcases c.valid with h | h
    · exact Nat.lt_of_lt_of_le h (by decide)
    · exact h.2
  exact decide_eq_true hv
theorem strOk_app {a b : Str} (h1 : PyData.strOk a = true) (h2 : PyData.strOk b = true) : PyData.strOk (a ++ b) = true := by
  unfold PyData.strOk at h1 h2 ⊢
  show (a.cps ++ b.cps).all _ = true
  rw [Array.all_append, h1, h2]; rfl
theorem strOk_from : ∀ (ts : List Str) (k : Nat) (acc : Str), PyData.strOk acc = true → (∀ t ∈ ts, PyData.strOk t = true) → PyData.strOk (textFrom k acc ts) = true
  | [], k, acc, h, _ => h
  | t :: ts, k, acc, h, h2 => by
    unfold textFrom
    exact strOk_from ts _ _ (strOk_app (strOk_app h (strOk_of _)) (h2 t List.mem_cons_self)) fun u hu => h2 u (List.mem_cons_of_mem _ hu)
theorem shownAll_di : ∀ ns : List Int, PyData.shownAll (di ns) = ns.map fun n => (Str.ofString (toString n))
  | [] => by simp [di, PyData.shownAll]
  | n :: ns => by
    have := shownAll_di ns
    simp [di] at this
    simp [di, PyData.shownAll, PyData.shown, this]
/-- the text of a list of ints -/
def tInts (ns : List Int) : Str := listText (ns.map fun n => Str.ofString (toString n))
theorem strOk_tInts (ns : List Int) : PyData.strOk (tInts ns) = true := by
  unfold tInts listText
  refine strOk_app (strOk_from _ _ _ (strOk_of _) fun t ht => ?_) (strOk_of _)
  obtain ⟨n, _, rfl⟩ := List.mem_map.mp ht
  exact strOk_of _
theorem len_tInts {k : Nat} (hk : 0 < k) {ns : List Int} (h : Dig k ns) : (tInts ns).length ≤ 2 + ns.length * (k + 3) := by
  unfold tInts listText
  rw [strLen_append]
  have h1 := textFrom_len_le (ns.map fun n => Str.ofString (toString n)) 0 "["
  have h2 : ((ns.map fun n => Str.ofString (toString n)).map (·.length)).sum ≤ ns.length * (k + 1) := by
    clear h1
    induction ns with
    | nil => simp
    | cons n ns ih =>
      have h3 := int_text_length_le10 hk (h n List.mem_cons_self)
      have h4 := ih fun m hm => h m (List.mem_cons_of_mem _ hm)
      rw [List.map_cons, List.map_cons, List.sum_cons, List.length_cons, PySem.ofString_length, Nat.succ_mul]
      omega
  rw [List.length_map] at h1
  have e1 : ((("[" : String) : Str)).length = 1 := rfl
  have e2 : ((("]" : String) : Str)).length = 1 := rfl
  rw [e1] at h1
  rw [e2]
  have e3 : ns.length * (k + 3) = ns.length * (k + 1) + 2 * ns.length := by rw [Nat.mul_add, Nat.mul_add]; omega
  omega
theorem reprP_ints {k : Nat} (hk : 0 < k) (hk2 : k ≤ 500) {ns : List Int} (h : Dig k ns) (hl : 2 + ns.length * (k + 3) ≤ 16777216) : reprP (.lst (ns.map PV.int)) = some (tInts ns) := by
  have h1 := len_tInts hk h
  have e : (PyData.list (di ns)).shown = tInts ns := by unfold PyData.shown tInts; rw [shownAll_di]
  have h2 := showable_di hk2 h
  have e5 : ((PyData.list (di ns)).canLay0 && (PyData.list (di ns)).showable && decide ((PyData.list (di ns)).depth ≤ 64) && decide ((PyData.list (di ns)).shown.length ≤ sizeLine)) = true := by
    rw [e]
    simp only [Bool.and_eq_true, decide_eq_true_eq]
    refine ⟨⟨⟨?_, ?_⟩, ?_⟩, ?_⟩
    · simp [PyData.canLay0, canLay_di]
    · simp [PyData.showable, h2]
    · simp [PyData.depth, depth_di]
    · show _ ≤ 16777216; omega
  unfold reprP
  rw [pd_lst]
  show (if _ then _ else _) = _
  rw [if_pos e5, e]
theorem reprP_int {k : Nat} (hk : 0 < k) (hk2 : k ≤ 500) {n : Int} (h : n.natAbs < 10 ^ k) : reprP (.int n) = some (Str.ofString (toString n)) := by
  have h1 := int_text_length_le10 hk h
  have h2 := log2_lt h hk2
  have e : (PyData.int n).shown = Str.ofString (toString n) := by unfold PyData.shown; rfl
  have e5 : ((PyData.int n).canLay0 && (PyData.int n).showable && decide ((PyData.int n).depth ≤ 64) && decide ((PyData.int n).shown.length ≤ sizeLine)) = true := by
    rw [e]
    simp only [Bool.and_eq_true, decide_eq_true_eq]
    refine ⟨⟨⟨?_, ?_⟩, ?_⟩, ?_⟩
    · simp [PyData.canLay0]
    · simp [PyData.showable, h2]
    · simp [PyData.depth]
    · show (Str.ofString (toString n)).length ≤ 16777216
      rw [PySem.ofString_length]; omega
  have e6 : pd (.int n) = some (.int n) := by unfold pd; rfl
  unfold reprP
  rw [e6]
  show (if _ then _ else _) = _
  rw [if_pos e5, e]
@[simp] theorem bRepr_ap {p : PV} {x : Str} (h : reprP p = some x) : bRepr p = some (.val (.str x)) := by unfold bRepr; rw [h]; rfl
end Mv
end S24_

section S25_
set_option Elab.async false
set_option linter.all false
set_option maxRecDepth 100000
set_option maxHeartbeats 4000000
namespace Mv
open PySem PySem.Spec PyProof.Rows L2

/-! ### sets of ints, as they stand between set(..) and sorted(..) -/
abbrev obS (w : World) : Obj := { cls := .type "set", dict := none, data := .set #[] 0 (.fresh 0 0 (!w.params.followText "set-order")) }
section
variable {P : Program} {w : World} {A : Around} {E : Value → Shared → Prop} {s : Shared}
theorem call_set_lsI {l : Addr} {items : Array Value} (ns : List Int) {Q : Value → Shared → Prop} (hh : A.handled = none) (lst : s.heap.IsList l items) (iv : IntsAre items.toList ns) (hb : ns.length + 1 < scanBound)
    (hQ : ∀ (h' : Heap) (tk c : Nat), SetR w h' s.heap.objs.size (fun j => decide (j ∈ ns)) c → c ≤ ns.length → (∀ b o, s.heap.get? b = some o → h'.get? b = some o) → Q (.ref s.heap.objs.size) { s with heap := h', toks := tk }) : wpAny (model P w) A (call (.type "set") [.ref l]) Q E s := by
  have many : items.size = ns.length := by have q := IntsAre.length iv; rwa [Array.length_toList] at q
  obtain ⟨c, tl, mro⟩ := F.called_set.mro
  have made := F.called_set.made; have sub := F.called_set.sub
  refine wpAny_call (codeAny_of_tree (?_ : wpAny _ _ (callAny (.type "set") _) _ _ _))
  refine wpAny_pure ⟨Code.quiet_builtin _ (by decide +kernel), codeAny_builtin F.entry_type_call ?_⟩; rw [Around.under_plain (weight_type_call_type "set" [.ref l] []) rfl]
  have t1 := F.called_set.notType; have t2 := F.called_set.canCreate; have t3 := F.typeCall_set_1 (.ref l)
  repeat (any_goals (first | wp_step | assumption))
  refine codeAny_mono (code_set_led1 (.ref l) (E := E) (Q₁ := fun ob s1 => ob = .ref s.heap.objs.size ∧ s1 = { s with heap := s.heap.push (obS w) }) ⟨rfl, rfl⟩) fun r s1 hr => ?_
  cases r with
  | error e => exact hr
  | ok fl =>
  cases fl with
  | ret ob =>
    obtain ⟨rfl, rfl⟩ := hr
    have at0 : (s.heap.push (obS w)).get? s.heap.objs.size = some (obS w) := Heap.get?_push_size _ rfl
    have ty : Shared.TypeIs { s with heap := s.heap.push (obS w) } (.ref s.heap.objs.size) "set" := ⟨_, at0, rfl⟩
    have i1 := F.called_set.init.lookup; have i2 := F.called_set.init.bind (.ref s.heap.objs.size)
    repeat (any_goals (first | wp_step | assumption))
    refine codeAny_mono (codeAny_call_builtin (R := wants (fun r s2 => r = .none ∧ ∃ h' tk c, s2 = { s with heap := h', toks := tk } ∧ SetR w h' s.heap.objs.size (fun j => decide (j ∈ ns)) c ∧ c ≤ ns.length ∧ (∀ b o, s.heap.get? b = some o → h'.get? b = some o)) E) F.called_set.init.plain F.entry_set_init (check_set_init_1 ty ?_)) fun r2 s2 hr2 => ?_
    · obtain ⟨⟨lc, ld, lo, lsl⟩, at1, cl, nl, da⟩ := lst
      simp only at cl da; subst cl da
      have at2 := Heap.get?_push_of_some (obS w) at1
      have n1 := F.sub_list_set; have n2 := F.sub_list_frozenset
      have n3 : (Value.type "list" == Value.type "dict") = false := by decide
      have ls2 : (s.heap.push (obS w)).IsList l items := ⟨_, at2, rfl, nl, rfl⟩
      unfold Builtin.«set.__init__» noKeywords Builtin.Frozenset.updateFrom
      generalize e9 : pyIter = PI
      wp_walk
      subst e9
      refine wpAny_pyIter_list ls2 (wpAny_bind (wpAny_runValue ?_))
      have old : l < s.heap.objs.size := Heap.lt_size at1
      have noH : A.in1.in1.in1.handled = none := by simp [hh]
      have z0 : (s.heap.push (obS w)).objs.size = s.heap.objs.size + 1 := Heap.size_push ..
      have d1 : l ≠ (s.heap.push (obS w)).objs.size := by rw [z0]; exact Nat.ne_of_lt (Nat.lt_succ_of_lt old)
      have d2 : s.heap.objs.size ∉ [(s.heap.push (obS w)).objs.size, l] := by
        rw [z0]
        intro m
        rcases List.mem_cons.mp m with m | m
        · exact Nat.ne_of_lt (Nat.lt_succ_self _) m
        · exact Nat.ne_of_gt old (List.mem_singleton.mp m)
      have vals : ∀ (i : Nat) (v : Value), items[i]? = some v → ∃ k t, ns[i]? = some k ∧ v = .int k t := fun i v e => by
        have hi : i < ns.length := by rw [← many]; exact (Array.getElem?_eq_some_iff.mp e).1
        obtain ⟨t, ev⟩ := PyProof.Rows.IntsAre.int_at iv i v (by rw [Array.getElem?_toList]; exact e)
        exact ⟨ns[i], t, List.getElem?_eq_getElem hi, by rw [ev, List.getD_eq_getElem?_getD, List.getElem?_eq_getElem hi]; rfl⟩
      refine set_update_ints ((Walks.list noH _ l d1 items).toS) s.heap.objs.size d2 ns many hb vals (items.size - 0) 0 _ (Nat.sub_zero _) (Nat.zero_le _) ⟨⟨_, Heap.get?_push_size _ rfl, rfl, rfl⟩, (ls2.push _)⟩ ?hEmpty ?hDone
      case hEmpty => exact ⟨0, Nat.le_refl 0, setR_new_at (Heap.get?_push_of_some _ at0)⟩
      case hDone =>
        rintro ⟨h', g2, dr, tk, os⟩ c' mv hc2 hS2
        obtain rfl : g2 = s.gens := mv.gens
        obtain rfl : dr = s.drawn := mv.drawn
        obtain rfl : os = s.os := mv.os
        rw [many] at hc2
        show wpAny _ _ _ _ _ _; refine wpAny_pure ?_; show wpAny _ _ (ret Value.none) _ _ _
        refine wpAny_pure ⟨rfl, h', tk, c', rfl, hS2, hc2, fun b o e => ?_⟩
        have lt := Heap.lt_size e
        refine mv.heap b o (fun m => ?_) (Heap.get?_push_of_some _ (Heap.get?_push_of_some _ e))
        rcases List.mem_cons.mp m with m | m
        · exact Nat.ne_of_lt lt m
        · exact Nat.ne_of_lt (Nat.lt_succ_of_lt lt) ((List.mem_singleton.mp m).trans z0)
    · cases r2 with
      | error e => exact hr2
      | ok fl2 =>
        cases fl2 with
        | ret r =>
          obtain ⟨rfl, h', tk, c', rfl, g1, g2, g3⟩ := hr2
          repeat (any_goals (first | wp_step | assumption))
          exact hQ _ _ _ g1 g2 g3
        | _ => exact hr2.elim
  | _ => exact hr.elim
/-- sorted(a set of ints), any number below the scan's bound -/
theorem sorted_setO {a : Addr} {S : Int → Bool} {n : Nat} {Q : Value → Shared → Prop} (R : SetR w s.heap a S n) (hh : A.handled = none)
    (hQ : ∀ s' p (out : Array Value) (c : Nat) (ns : List Int), (∀ b o, s.heap.get? b = some o → s'.heap.get? b = some o) → s'.gens = s.gens → s'.os = s.os → s.heap.objs.size ≤ p → s'.heap.get? p = some (seqObj "list" out c) → IntsAre out.toList ns → ns.Pairwise (· < ·) → (∀ k, k ∈ ns ↔ S k = true) → ns.length = n → Q (.ref p) s') : wpAny (model P w) A (call (.builtin "sorted") [.ref a]) Q E s := by
  obtain ⟨o, es, ep, t, ho, hex, hd, good, nd, mem, few, fits, hn, ris, led⟩ := R
  refine Calls.call_function_entry kind_sorted plain_sorted entry_sorted (args_sorted1 _) ?_
  unfold Builtin.«sorted»
  refine wpAny_bind (m := checkCount "sorted" 1 1 _) (wpAny_pure (wpAny_bind (collect_set (A := A.in1) hh ⟨o, ho, hex.1, hd⟩ fits few ris led fun s1 vs k1 hz g1 o1 pm => ?_)))
  have lv : vs.length = n := by rw [pm.length_eq, List.length_map, Array.length_toList, hn]
  have iv : IntsAre vs (vs.map Builtin.Re.reRawOf) := ints_of vs fun v hv => by
    obtain ⟨e, he, q⟩ := List.mem_map.mp (pm.mem_iff.mp hv)
    obtain ⟨k, tk, h1, _⟩ := good e he
    exact ⟨k, tk, q ▸ h1⟩
  have pk : (vs.map Builtin.Re.reRawOf).Perm (es.toList.map keyOf) := by have q := pm.map Builtin.Re.reRawOf; rwa [List.map_map] at q
  have zl : vs.length ≤ sizeLine := by rw [lv, ← hn]; exact Nat.le_trans (Nat.le_of_lt few) (by unfold scanBound sizeLine; decide)
  refine wpAny_bind (wpAny_newList ?_ zl)
  have ob : (s1.heap.push (seqObj "list" vs.toArray 0)).get? s1.heap.objs.size = some (seqObj "list" vs.toArray 0) := Heap.get?_push_size _ rfl
  refine wpAny_bind (wpAny_holding (wpAny_call_entry slot_list_sort ⟨_, ob, rfl⟩ entry_list_sort (SrtO.list_sort_ord SrtO.swo_int ob zl (fun h2 => SrtO.ints_sortable iv h2) fun out h1 h2 => ⟨_, rfl, ?_⟩) (args_list_sort _)))
  obtain ⟨i1, i2, i3⟩ := SrtO.ints_out iv h1 h2
  obtain ⟨c, hc⟩ := sortedHeap_at (vs := vs) (out := out.toArray) ob
  have pn := i2.trans pk
  refine wpAny_pure ⟨_, rfl, hQ _ s1.heap.objs.size out.toArray c _ (fun b u e => ?_) g1 o1 hz hc i1 (lt_of_le_nodup _ i3 (pn.nodup_iff.mpr nd)) (fun k => by rw [pn.mem_iff, ← mem k]) (by rw [pn.length_eq, List.length_map, Array.length_toList, hn])⟩
  have q := k1 b u e
  have lt := Heap.lt_size q
  exact (sortedHeap_old (Nat.ne_of_lt lt) (by rw [size_push']; exact Nat.lt_succ_of_lt lt)).trans (Heap.get?_push_of_some _ q)
end
section
variable {X : Cx}
def rSetI (K : PySem.W.Frag) (w : World) : List V → Hp → VK → Prop := fun xs H Q => ∃ (a : Addr) (ns : List Int), xs = [.ref a] ∧ (SqL K H a (ns.map V.int) ∨ SqT K H a (ns.map V.int)) ∧ ns.length + 1 < scanBound ∧
  ∀ p c, H p = none → Q (.ref p) (upd H p (SetO w p (fun j => decide (j ∈ ns)) c))
theorem cr_setI (hc : X.calm = true) : CallR X (.type "set") (rSetI X.K X.w) := by
  intro pins s σ H xs us Q I r h
  obtain ⟨a, ns, rfl, hs, hb, q⟩ := h
  rw [Vals.ref1 r]
  have fin : ∀ (h' : Heap) (tk c : Nat), SetR X.w h' s.heap.objs.size (fun j => decide (j ∈ ns)) c → c ≤ ns.length → (∀ b o, s.heap.get? b = some o → h'.get? b = some o) → EP X pins σ Q (.ref s.heap.objs.size) { s with heap := h', toks := tk } := fun h' tk c R _ k =>
    ⟨.ref _, upd H s.heap.objs.size (SetO X.w s.heap.objs.size (fun j => decide (j ∈ ns)) c), I.laid (t' := tk) k (Nat.le_refl _) (setO_new R), rfl, q _ c (I.hok.fresh (Nat.le_refl _))⟩
  rcases hs with hs | hs
  · obtain ⟨its, rv, pl, hz⟩ := I.list hs
    exact call_set_lsI ns (I.ok.hd hc) pl.isList (by simpa using rv.ints) hb fin
  · obtain ⟨its, rv, pl, hz⟩ := I.tuple hs
    exact call_set_tupI ns (I.ok.hd hc) pl (by simpa using rv.ints) hb fin
def rSrtS (w : World) : List V → Hp → VK → Prop := fun vs H Q => ∃ (a : Addr) (S : Int → Bool) (n : Nat), vs = [V.ref a] ∧ H a = some (SetO w a S n) ∧
  ∀ (ns : List Int) (p : Addr), ns.Pairwise (· < ·) → (∀ k : Int, k ∈ ns ↔ S k = true) → H p = none → Q (.ref p) (upd H p (.lst (ns.map V.int)))
theorem cr_srtS (hc : X.calm = true) : CallR X (.builtin "sorted") (rSrtS X.w) := by
  intro pins s σ H vs us Q I r h
  obtain ⟨a, S, n, rfl, ha, q⟩ := h
  have R := setO_get I ha
  rw [Vals.ref1 r]
  have hn4 : n < scanBound := by obtain ⟨o, es, ep, t, _, _, _, _, _, _, few, _, hn, _⟩ := R; omega
  refine sorted_setO R (I.ok.hd hc) fun s' p out c ns k g o hp hg hi hs hm hl => ?_
  have lz : (ns.map V.int).length ≤ sizeLine := by rw [List.length_map, hl]; exact Nat.le_trans (Nat.le_of_lt hn4) (by unfold scanBound sizeLine; decide)
  have fr : H p = none := I.hok.fresh hp
  have J : Inv X pins σ (upd H p (.lst (ns.map V.int))) { s with heap := s'.heap, gens := s'.gens, drawn := s'.drawn, toks := s'.toks } := I.call (ch := []) (Un.laid k hp fr) (I.hok.laid k hp ⟨lz, out.toList, c, vals_of_ints hi, hg⟩) (by rw [g]; exact I.bare) (fun _ z => nomatch z)
  have e : s' = { s with heap := s'.heap, gens := s'.gens, drawn := s'.drawn, toks := s'.toks } := by cases s'; cases s; cases o; rfl
  rw [e]
  exact ⟨.ref p, _, J, rfl, q ns p hs hm fr⟩
end
/-- ascending, each once -/
def insD (n : Int) : List Int → List Int
  | [] => [n]
  | m :: r => if n < m then n :: m :: r else if n = m then m :: r else m :: insD n r
def sset (ns : List Int) : List Int := ns.foldr insD []
theorem insD_mem (n k : Int) : ∀ l : List Int, k ∈ insD n l ↔ k = n ∨ k ∈ l
  | [] => by simp [insD]
  | m :: r => by
    unfold insD
    by_cases h : n < m
    · rw [if_pos h]; simp
    · rw [if_neg h]
      by_cases h2 : n = m
      · rw [if_pos h2, h2]; simp
      · rw [if_neg h2, List.mem_cons, insD_mem n k r, List.mem_cons]
        constructor
        · rintro (h | h | h)
          · exact .inr (.inl h)
          · exact .inl h
          · exact .inr (.inr h)
        · rintro (h | h | h)
          · exact .inr (.inl h)
          · exact .inl h
          · exact .inr (.inr h)
theorem insD_asc (n : Int) : ∀ l : List Int, l.Pairwise (· < ·) → (insD n l).Pairwise (· < ·)
  | [], _ => by simp [insD]
  | m :: r, h => by
    obtain ⟨h1, h2⟩ := List.pairwise_cons.mp h
    unfold insD
    by_cases c : n < m
    · rw [if_pos c]
      refine List.pairwise_cons.mpr ⟨fun k hk => ?_, h⟩
      rcases List.mem_cons.mp hk with rfl | hk
      · exact c
      · have := h1 k hk; omega
    · rw [if_neg c]
      by_cases c2 : n = m
      · rw [if_pos c2]; exact h
      · rw [if_neg c2]
        refine List.pairwise_cons.mpr ⟨fun k hk => ?_, insD_asc n r h2⟩
        rcases (insD_mem n k r).mp hk with rfl | hk
        · omega
        · exact h1 k hk
theorem sset_mem (k : Int) : ∀ ns : List Int, k ∈ sset ns ↔ k ∈ ns
  | [] => by simp [sset]
  | n :: ns => by
    show k ∈ insD n (sset ns) ↔ _
    rw [insD_mem, sset_mem k ns, List.mem_cons]
theorem sset_asc : ∀ ns : List Int, (sset ns).Pairwise (· < ·)
  | [] => by simp [sset]
  | n :: ns => insD_asc n _ (sset_asc ns)
theorem insD_len (n : Int) : ∀ l : List Int, (insD n l).length ≤ l.length + 1
  | [] => by simp [insD]
  | m :: r => by
    unfold insD
    have := insD_len n r
    split
    · simp
    · split <;> simp <;> omega
theorem sset_len : ∀ ns : List Int, (sset ns).length ≤ ns.length
  | [] => by simp [sset]
  | n :: ns => Nat.le_trans (insD_len n (sset ns)) (by have := sset_len ns; simp; omega)
theorem asc_one : ∀ {l l' : List Int}, l.Pairwise (· < ·) → l'.Pairwise (· < ·) → (∀ k, k ∈ l ↔ k ∈ l') → l = l'
  | [], [], _, _, _ => rfl
  | [], y :: l', _, _, h => absurd ((h y).mpr List.mem_cons_self) (by simp)
  | x :: l, [], _, _, h => absurd ((h x).mp List.mem_cons_self) (by simp)
  | x :: l, y :: l', h1, h2, h => by
    obtain ⟨a1, a2⟩ := List.pairwise_cons.mp h1
    obtain ⟨b1, b2⟩ := List.pairwise_cons.mp h2
    have e : x = y := by
      rcases List.mem_cons.mp ((h x).mp List.mem_cons_self) with c | c
      · exact c
      · rcases List.mem_cons.mp ((h y).mpr List.mem_cons_self) with d | d
        · exact d.symm
        · have := a1 y d; have := b1 x c; omega
    subst e
    rw [asc_one a2 b2 fun k => ⟨fun hk => ?_, fun hk => ?_⟩]
    · rcases List.mem_cons.mp ((h k).mp (List.mem_cons_of_mem _ hk)) with c | c
      · have := a1 k hk; omega
      · exact c
    · rcases List.mem_cons.mp ((h k).mpr (List.mem_cons_of_mem _ hk)) with c | c
      · have := b1 k hk; omega
      · exact c
theorem sset_is {l ns : List Int} (h : l.Pairwise (· < ·)) (hm : ∀ k, k ∈ l ↔ k ∈ ns) : l = sset ns := asc_one h (sset_asc ns) fun k => (hm k).trans (sset_mem k ns).symm
def seqP : PV → Option (List PV)
  | .lst ps => some ps
  | .tup ps => some ps
  | _ => none
/-- sorted(set(x)) -/
def bSrtSet (p : PV) : Option Rv := (seqP p).bind fun ps => (intsL ps).bind fun ns => if ns.length < 4000 then some (.tmp (.lst ((sset ns).map PV.int))) else none
def rSS (K : PySem.W.Frag) (w : World) : List V → Hp → VK → Prop := fun xs H Q => rSetI K w xs H fun v H1 => rSrtS w [v] H1 Q
section
variable {L : Lx} {pos p p2 q : Pos} {e : Expr} {a : ASem}
theorem bSrtSet_s : OpNS L (op1 bSrtSet) (rSS L.X.K L.X.w) := op1_s fun rs p z x H Q st hx e hQ => by
  unfold bSrtSet at e
  cases e0 : seqP p with
  | none => rw [e0] at e; cases e
  | some ps =>
  rw [e0, Option.bind_some] at e
  cases e2 : intsL ps with
  | none => rw [e2] at e; cases e
  | some ns =>
  rw [e2, Option.bind_some] at e
  by_cases hl : ns.length < 4000
  · rw [if_pos hl] at e
    cases e
    have hps : p = .lst ps ∨ p = .tup ps := by
      cases p <;> cases e0
      · exact .inr rfl
      · exact .inl rfl
    obtain ⟨ad, xs, h1, h2, h3⟩ := rv_seq hx hps
    rw [ints_some e2] at h3
    rw [h3.intsV] at h2
    refine ⟨ad, ns, by rw [h1], h2, by unfold scanBound; omega, fun p' c hp' => ⟨p', _, c, rfl, upd_same, fun ns' p2 g1 g2 hn => hQ _ _ ?_⟩⟩
    rw [sset_is (ns := ns) g1 fun k => by rw [g2]; exact decide_eq_true_iff]
    exact (st.fresh hp').new_list (RpA.of_ints _) hn
  · rw [if_neg hl] at e; cases e
theorem e_srtset (hc : L.X.calm = true) (hm : L.X.mg "sorted" = none) (hm2 : L.X.mg "set" = none) (ha : PA L.X [e] (tA L a)) (hg : Gl L.X "sorted" := by rfl) (hg2 : Gl L.X "set" := by rfl)
    (he : starEach [e] L.X.env = (false, eval e L.X.env) :: starEach [] L.X.env := by rfl)
    (h0 : starEach [.Call (.Name "set" p2) [e] [] q] L.X.env = (false, eval (.Call (.Name "set" p2) [e] [] q) L.X.env) :: starEach [] L.X.env := by rfl) : PE L.X (.Call (.Name "sorted" p) [.Call (.Name "set" p2) [e] [] q] [] pos) (tE L (eB (op1 bSrtSet) a)) :=
  peI (pe_callB (id := "sorted") (cr_srtS hc) hg hm rfl (pa_cons (pe_callTy (T := "set") (cr_setI hc) hg2 hm2 rfl ha (by decide) (by decide) he rfl) pa_nil h0) (by decide) (by decide) h0 rfl) fun σ H Q h => tCB_go (bSrtSet_s) h
end
@[simp] theorem bSrtSet_l (ns : List Int) : bSrtSet (.lst (ns.map .int)) = if ns.length < 4000 then some (.tmp (.lst ((sset ns).map PV.int))) else none := by
  unfold bSrtSet; simp [seqP]
@[simp] theorem bSrtSet_t (ns : List Int) : bSrtSet (.tup (ns.map .int)) = if ns.length < 4000 then some (.tmp (.lst ((sset ns).map PV.int))) else none := by
  unfold bSrtSet; simp [seqP]
/-! ### i in xs, i not in xs: ints -/
def inP : PV → PV → Option Bool
  | .int i, q => (seqP q).bind fun ps => (intsL ps).map fun ns => decide (i ∈ ns)
  | _, _ => none
def oIn (p q : PV) : Option Rv := (inP p q).map fun b => .val (.bl b)
def oNin (p q : PV) : Option Rv := (inP p q).map fun b => .val (.bl (!b))
theorem inV_ints (i : Int) : ∀ ns : List Int, inV (.int i) (ns.map V.int) = decide (i ∈ ns)
  | [] => by simp [inV]
  | n :: ns => by
    have := inV_ints i ns
    unfold inV at this ⊢
    rw [List.map_cons, List.any_cons, this]
    by_cases h : n = i
    · simp [h, eqV]
    · have h2 : ¬ i = n := fun e => h e.symm
      simp [h, h2, eqV]
theorem flat_ints : ∀ ns : List Int, (ns.map V.int).all flatV = true
  | [] => rfl
  | n :: ns => flat_ints ns
theorem in_core {K : PySem.W.Frag} {mg : Str → Option Value} {H : Hp} {p q : PV} {x y : V} {b : Bool} (e : inP p q = some b) (hx : RpV K mg H p x) (hy : RpV K mg H q y) : ∃ a xs, y = .ref a ∧ (SqL K H a xs ∨ SqT K H a xs) ∧ flatV x = true ∧ xs.all flatV = true ∧ inV x xs = b := by
  cases p <;> try cases e
  rename_i i
  have e : ((seqP q).bind fun ps => (intsL ps).map fun ns => decide (i ∈ ns)) = some b := e
  cases e0 : seqP q with
  | none => rw [e0] at e; cases e
  | some ps =>
  rw [e0, Option.bind_some] at e
  cases e2 : intsL ps with
  | none => rw [e2] at e; cases e
  | some ns =>
  rw [e2] at e
  cases e
  have hps : q = .lst ps ∨ q = .tup ps := by
    cases q <;> cases e0
    · exact .inr rfl
    · exact .inl rfl
  obtain ⟨a, xs, h1, h2, h3⟩ := rv_seq hy hps
  rw [ints_some e2] at h3
  have h4 := h3.intsV
  subst h4
  rw [rv_int hx]
  exact ⟨a, _, h1, h2, rfl, flat_ints ns, inV_ints i ns⟩
section
variable {L : Lx} {pos : Pos} {e e2 : Expr} {f g : ESem}
theorem oIn_s : Op2S L oIn (rIn L.X.K false) := fun rs p q z x y H Q st hx hy e hQ => by
  unfold oIn at e
  cases e1 : inP p q with
  | none => rw [e1] at e; cases e
  | some b =>
    rw [e1] at e
    cases e
    obtain ⟨a, xs, rfl, h2, h3, h4, h5⟩ := in_core e1 hx hy
    exact ⟨a, xs, rfl, h2, h3, h4, by simpa [h5] using hQ _ H (st.push_val rfl)⟩
theorem oNin_s : Op2S L oNin (rIn L.X.K true) := fun rs p q z x y H Q st hx hy e hQ => by
  unfold oNin at e
  cases e1 : inP p q with
  | none => rw [e1] at e; cases e
  | some b =>
    rw [e1] at e
    cases e
    obtain ⟨a, xs, rfl, h2, h3, h4, h5⟩ := in_core e1 hx hy
    exact ⟨a, xs, rfl, h2, h3, h4, by simpa [h5] using hQ _ H (st.push_val rfl)⟩
theorem k_in (ha : PE L.X e (tE L f)) (hb : PE L.X e2 (tE L g)) (hm : behindInMarks .In e2 = false := by rfl) : PE L.X (.Compare e [.In] [e2] pos) (tE L (eBin oIn f g)) := e_cmp op_in_seq oIn_s ha hb hm
theorem k_nin (ha : PE L.X e (tE L f)) (hb : PE L.X e2 (tE L g)) (hm : behindInMarks .NotIn e2 = false := by rfl) : PE L.X (.Compare e [.NotIn] [e2] pos) (tE L (eBin oNin f g)) := e_cmp op_notIn_seq oNin_s ha hb hm
theorem t_in (ha : PE L.X e (tE L f)) (hb : PE L.X e2 (tE L g)) (hm : behindInMarks .In e2 = false := by rfl) : PT L.X (.Compare e [.In] [e2] pos) (tT L (tV (eBin oIn f g))) := t_cmp op_in_seq oIn_s ha hb hm
theorem t_nin (ha : PE L.X e (tE L f)) (hb : PE L.X e2 (tE L g)) (hm : behindInMarks .NotIn e2 = false := by rfl) : PT L.X (.Compare e [.NotIn] [e2] pos) (tT L (tV (eBin oNin f g))) := t_cmp op_notIn_seq oNin_s ha hb hm
end
@[simp] theorem oIn_l (i : Int) (ns : List Int) : oIn (.int i) (.lst (ns.map .int)) = some (.val (.bl (decide (i ∈ ns)))) := by unfold oIn inP; simp [seqP]
@[simp] theorem oIn_t (i : Int) (ns : List Int) : oIn (.int i) (.tup (ns.map .int)) = some (.val (.bl (decide (i ∈ ns)))) := by unfold oIn inP; simp [seqP]
@[simp] theorem oNin_l (i : Int) (ns : List Int) : oNin (.int i) (.lst (ns.map .int)) = some (.val (.bl (!decide (i ∈ ns)))) := by unfold oNin inP; simp [seqP]
@[simp] theorem oNin_t (i : Int) (ns : List Int) : oNin (.int i) (.tup (ns.map .int)) = some (.val (.bl (!decide (i ∈ ns)))) := by unfold oNin inP; simp [seqP]
end Mv
end S25_

section S26_
set_option Elab.async false
set_option linter.all false
set_option maxRecDepth 100000
namespace Mv
open PySem PySem.Spec PyProof.Rows L2

/-! ### displays with stars -/
def vl (ps : List PV) : List Opd := ps.map .val
def starO (Γ : Env) (d : Opd) : Option (List PV) := (vw Γ d).bind seqP
def aC (f : ESem) (a : ASem) : ASem := fun Γ => (f Γ).bind fun d Γ1 => (a Γ1).bind fun ds Γ2 => .ok (d :: ds) Γ2
def aSt (f : ESem) (a : ASem) : ASem := fun Γ => (f Γ).bind fun d Γ1 => match starO Γ1 d with
  | some ps => (a Γ1).bind fun ds Γ2 => .ok (vl ps ++ ds) Γ2
  | none => .no
theorem pshs_app' : ∀ (as : List Opd) (xs : List V) (ds : List Opd) (ys : List V) (T : List RS), xs.length = as.length → pshs (as ++ ds) (xs ++ ys) T = pshs ds ys (pshs as xs T)
  | [], [], ds, ys, T, _ => rfl
  | a :: as, x :: xs, ds, ys, T, h => pshs_app' as xs ds ys (psh a x T) (by simpa using h)
  | [], x :: xs, _, _, _, h => by cases h
  | a :: as, [], _, _, _, h => by cases h
section
variable {L : Lx}
theorem st_items {H : Hp} {Z : List RS} : ∀ {ps : List PV} {xs : List V} {R : List RS}, St L (Z ++ R) H → RpA L.X.K L.X.mg H ps xs → St L (Z ++ pshs (ps.map .val) xs R) H
  | [], _, R, st, h => by have h : _ = [] := h; subst h; exact st
  | p :: ps, _, R, st, h => by
    obtain ⟨x, r, rfl, h1, h2⟩ := h
    exact st_items (ps := ps) (R := psh (.val p) x R) ((st.push_val h1).perm List.perm_middle.symm) h2
theorem has_items {σ : L2.St} : ∀ {ps : List PV} {xs : List V} {R : List RS} (i : Nat) (d : Opd) (v : V), (ps.map Opd.val)[i]? = some d → xs[i]? = some v → Has σ (pshs (ps.map .val) xs R) d v
  | [], xs, R, i, d, v, h, _ => by simp at h
  | p :: ps, [], R, i, d, v, _, h => by simp at h
  | p :: ps, x :: xs, R, 0, d, v, h1, h2 => by
    simp at h1 h2
    subst h1 h2
    exact (pshs_sub (ps.map .val) xs _).subset List.mem_cons_self
  | p :: ps, x :: xs, R, i + 1, d, v, h1, h2 => has_items (ps := ps) (R := psh (.val p) x R) i d v (by simpa using h1) (by simpa using h2)
theorem a_star {e : Expr} {es : List Expr} {p : Pos} {f : ESem} {a : ASem} (ha : PE L.X e (tE L f)) (hr : PA L.X es (tA L a)) (hs : starEach (.Starred e p :: es) L.X.env = (true, eval e L.X.env) :: starEach es L.X.env := by rfl) :
    PA L.X (.Starred e p :: es) (tA L (aSt f a)) := paI (StX.pa_star ha hr hs) fun σ H Q q => by
  obtain ⟨Γ, T, hl, st, q⟩ := q
  refine tE_bind hl (List.Sublist.refl T) st q fun d Γ1 x H1 hl1 o1 h1 => ?_
  cases e : starO Γ1 d with
  | none => simp only [e] at h1; exact h1.elim
  | some ps =>
    simp only [e] at h1
    cases ev : vw Γ1 d with
    | none => unfold starO at e; rw [ev] at e; cases e
    | some pv =>
      unfold starO at e
      rw [ev] at e
      have hp : pv = .lst ps ∨ pv = .tup ps := by
        cases pv <;> first | (cases e; exact .inl rfl) | (cases e; exact .inr rfl) | cases e
      obtain ⟨b, xs, rfl, hq, hr⟩ := rv_seq (view_of o1.st o1.has ev) hp
      have st1 := st_items (ps := ps) (xs := xs) (o1.st.sub (List.Sublist.append (List.Sublist.refl _) (psh_sub d _ T))) hr
      refine ⟨b, xs, rfl, hq.symm, ?_⟩
      refine tA_bind hl1 (pshs_sub _ xs T) st1 h1 fun ds Γ2 ys H2 hl2 o2 h2 => ?_
      have hlen : xs.length = (ps.map Opd.val).length := by rw [hr.len, List.length_map]
      refine h2 hl2 (xs ++ ys) H2 ⟨by show St L (σ.zip Γ2 ++ pshs (ps.map .val ++ ds) (xs ++ ys) T) H2; rw [pshs_app' _ _ _ _ _ hlen]; exact o2.st, by show _ = (ps.map Opd.val ++ ds).length; rw [List.length_append, List.length_append, hlen, o2.len], fun i d' v' e1 e2 => ?_⟩
      have e1 : (ps.map Opd.val ++ ds)[i]? = some d' := e1
      show Has σ (pshs (ps.map .val ++ ds) (xs ++ ys) T) d' v'
      rw [pshs_app' _ _ _ _ _ hlen]
      by_cases c : i < xs.length
      · rw [List.getElem?_append_left (by rw [← hlen]; exact c)] at e1
        rw [List.getElem?_append_left c] at e2
        exact (has_items i d' v' e1 e2).up fun r hr => (pshs_sub ds ys _).subset hr
      · rw [List.getElem?_append_right (by rw [← hlen]; omega)] at e1
        rw [List.getElem?_append_right (by omega), hlen] at e2
        exact o2.has (i - (ps.map Opd.val).length) d' v' e1 e2
theorem a_consX {e : Expr} {es : List Expr} {f : ESem} {a : ASem} (ha : PE L.X e (tE L f)) (hr : PA L.X es (tA L a)) (hs : starEach (e :: es) L.X.env = (false, eval e L.X.env) :: starEach es L.X.env := by rfl) : PA L.X (e :: es) (tA L (aC f a)) :=
  paI (pa_cons ha hr hs) fun σ H Q q => by
    obtain ⟨Γ, T, hl, st, q⟩ := q
    refine tE_bind hl (List.Sublist.refl T) st q fun d Γ1 x H1 hl1 o1 h1 => ?_
    refine tA_bind hl1 (psh_sub d x T) o1.st h1 fun ds Γ2 xs H2 hl2 o2 h2 => ?_
    refine h2 hl2 (x :: xs) H2 ⟨o2.st, by rw [List.length_cons, List.length_cons, o2.len], fun i d' v' e1 e2 => ?_⟩
    cases i with
    | zero =>
      simp at e1 e2
      subst e1 e2
      exact o1.has.up fun r hr => (pshs_sub ds xs _).subset hr
    | succ i => exact o2.has i d' v' (by simpa using e1) (by simpa using e2)
end
@[simp] theorem aC_ap (f : ESem) (a : ASem) (Γ : Env) : aC f a Γ = (f Γ).bind fun d Γ1 => (a Γ1).bind fun ds Γ2 => .ok (d :: ds) Γ2 := rfl
theorem valsO_app (ps : List PV) (ds : List Opd) : valsO (vl ps ++ ds) = (valsO ds).map (ps ++ ·) := by
  induction ps with
  | nil => show valsO ds = _; cases valsO ds <;> rfl
  | cons p ps ih =>
    show (valsO (vl ps ++ ds)).map (p :: ·) = _
    rw [ih]
    cases valsO ds <;> rfl
/-! ### a, b = x, y where a comprehension looks at one of the names: the tuple is made and taken apart -/
theorem s_parC {L : Lx} {i j : Nat} {st : Stmt} {f : ASem} (hs : PS L.X st (tAsg (tTup (tA L f)) (gTup L.X.K 2 (gCons (gName i) (gCons (gName j) gNil))))) (hf : ∀ Γ ds Γ', f Γ = .ok ds Γ' → ds.length = 2) (hi : i ∉ L.M.map (·.1)) (hj : j ∉ L.M.map (·.1)) (hx : i < L.X.N.length) (hy : j < L.X.N.length) : PS L.X st (tS L (parS [i, j] f)) := by
  refine ⟨fun pins s σ H D I q => hs.run pins s σ H D I ?_⟩
  have e : σ.length = L.X.N.length := I.len
  obtain ⟨Γ, T, a, b, h⟩ := par_go (σ := σ) (H := H) (D := D) (is := [i, j]) (f := f) (by simp; exact ⟨⟨by simpa using hi, by omega⟩, ⟨by simpa using hj, by omega⟩⟩) q
  refine ⟨Γ, T, a, b, ?_⟩
  cases ef : f Γ with
  | ok ds Γ' =>
    rw [ef] at h
    intro hl vs H' o
    have hd := hf _ _ _ ef
    have hv : vs.length = 2 := o.len.trans hd
    match vs, hv, o with
    | [v, w], _, o =>
      refine ⟨Nat.le_trans (show 2 ≤ 16000000 by decide) (by unfold sizeLine; decide), fun p hp => ⟨p, [v, w], rfl, ?_, rfl, v, [w], rfl, w, [], rfl, rfl, ?_⟩⟩
      · exact .inl (.inl upd_same)
      · exact h hl [v, w] (upd H' p (.tup [v, w])) ⟨o.st.fresh hp, o.len, o.has⟩ rfl
  | ex x Γ' => rw [ef] at h; exact h
  | no => rw [ef] at h; exact h
/-! ### sum of a tuple -/
def rSumT (K : PySem.W.Frag) : List V → Hp → VK → Prop := fun vs H Q => ∃ (a : Addr) (ns : List Int), vs = [V.ref a] ∧ SqT K H a (ns.map V.int) ∧ Q (.int ns.sum) H
theorem cr_sumT {X : Cx} (hc : X.calm = true) : CallR X (.builtin "sum") (rSumT X.K) := by
  intro pins s σ H vs us Q I r h
  obtain ⟨a, ns, rfl, hs, q⟩ := h
  obtain ⟨its, rv, ht, _⟩ := I.tuple hs
  rw [Vals.ref1 r]
  obtain ⟨xs, e⟩ := rv.ints.allInts.items
  have hn : numsOf (intItems xs).toList = ns := by rw [← e]; exact rv.ints.numsOf
  rw [nums_intItems] at hn
  have ht' : s.heap.IsTuple a its.toArray := ht
  rw [e] at ht'
  refine PySem.W.ktm_sumG (I.ok.hd hc) ht' fun h' tk t' hk => ?_
  rw [preSum_eq, List.take_of_length_le (by simp), hn]
  exact ⟨.int _, H, I.kept hk, ⟨_, rfl⟩, q⟩
def bSumT : PV → Option Rv
  | .tup ps => (intsL ps).map fun ns => .val (.int ns.sum)
  | _ => none
theorem bSumT_s {L : Lx} : OpNS L (op1 bSumT) (rSumT L.X.K) := op1_s fun rs p z x H Q st hx e hQ => by
  cases p <;> try cases e
  rename_i ps
  have e : (intsL ps).map (fun ns => Rv.val (.int ns.sum)) = some z := e
  cases e2 : intsL ps with
  | none => rw [e2] at e; cases e
  | some ns =>
    rw [e2] at e
    cases e
    obtain ⟨a, xs, h1, h2, h3⟩ := rv_tup hx
    rw [ints_some e2] at h3
    rw [h3.intsV] at h2
    exact ⟨a, ns, by rw [h1], h2, hQ _ H (st.push_val rfl)⟩
def oSum := orB (op1 bSumL) (op1 bSumT)
theorem oSum_s {L : Lx} : OpNS L oSum (fun xs H Q => rSum L.X.K xs H Q ∨ rSumT L.X.K xs H Q) := orB_s bSumL_s bSumT_s
theorem c_sum {X : Cx} (hc : X.calm = true) : CallR X (.builtin "sum") (fun xs H Q => rSum X.K xs H Q ∨ rSumT X.K xs H Q) := (cr_sum hc).or (cr_sumT hc)
/-! ### is True, is False -/
def oIsB : PV → PV → Option Rv
  | .bl a, .bl b => some (.val (.bl (decide (a = b))))
  | _, _ => none
def oNotB : PV → PV → Option Rv
  | .bl a, .bl b => some (.val (.bl (!decide (a = b))))
  | _, _ => none
theorem rv_blX {K : PySem.W.Frag} {mg : Str → Option Value} {H : Hp} {b : Bool} {x : V} (h : RpV K mg H (.bl b) x) : x = .bl b := by
  rcases h with h | ⟨a, o, rfl, e, _⟩
  · exact h
  · cases o <;> cases e
theorem oIsB_s {L : Lx} : Op2S L oIsB (fun x y H Q => ∃ a b, x = .bl a ∧ y = .bl b ∧ Q (.bl (decide (a = b))) H) := fun rs p q z x y H Q st hx hy e hQ => by
  cases p <;> try cases e
  cases q <;> try cases e
  exact ⟨_, _, rv_blX hx, rv_blX hy, hQ _ H (st.push_val rfl)⟩
theorem oNotB_s {L : Lx} : Op2S L oNotB (fun x y H Q => ∃ a b, x = .bl a ∧ y = .bl b ∧ Q (.bl (!decide (a = b))) H) := fun rs p q z x y H Q st hx hy e hQ => by
  cases p <;> try cases e
  cases q <;> try cases e
  exact ⟨_, _, rv_blX hx, rv_blX hy, hQ _ H (st.push_val rfl)⟩
section
variable {L : Lx} {e e2 : Expr} {f g : ESem} {pos : Pos}
theorem k_isB (ha : PE L.X e (tE L f)) (hb : PE L.X e2 (tE L g)) (hm : behindInMarks .Is e2 = false := by rfl) : PE L.X (.Compare e [.Is] [e2] pos) (tE L (eBin oIsB f g)) := e_cmp op_is_bl oIsB_s ha hb hm
theorem k_ntB (ha : PE L.X e (tE L f)) (hb : PE L.X e2 (tE L g)) (hm : behindInMarks .IsNot e2 = false := by rfl) : PE L.X (.Compare e [.IsNot] [e2] pos) (tE L (eBin oNotB f g)) := e_cmp op_isnot_bl oNotB_s ha hb hm
theorem t_isB (ha : PE L.X e (tE L f)) (hb : PE L.X e2 (tE L g)) (hm : behindInMarks .Is e2 = false := by rfl) : PT L.X (.Compare e [.Is] [e2] pos) (tT L (tV (eBin oIsB f g))) := t_cmp op_is_bl oIsB_s ha hb hm
theorem t_ntB (ha : PE L.X e (tE L f)) (hb : PE L.X e2 (tE L g)) (hm : behindInMarks .IsNot e2 = false := by rfl) : PT L.X (.Compare e [.IsNot] [e2] pos) (tT L (tV (eBin oNotB f g))) := t_cmp op_isnot_bl oNotB_s ha hb hm
end
end Mv
end S26_

section S27_
set_option Elab.async false
set_option linter.all false
set_option maxRecDepth 100000
namespace Mv
open PySem PySem.Spec PyProof.Rows L2
/-! ### x.extend(y): y a new list, or what a slot owns -/
def extO (Γ : Env) (j : Nat) (qs : List PV) : Rs Opd :=
  match Γ[j]? with
  | some (.ow (.lst ps)) => if ps.length + qs.length ≤ sizeLine then .ok (.val .non) (Γ.set j (.ow (.lst (ps ++ qs)))) else .no
  | _ => .no
def eExt (j : Nat) (f : ESem) : ESem := fun Γ =>
  match Γ[j]? with
  | some (.ow o) => if isLst o then (aS [f] Γ).bind fun ds Γ1 =>
      match ds with
      | [.tmp (.lst qs)] => extO Γ1 j qs
      | _ => .no
    else .no
  | _ => .no
section
variable {L : Lx} {j : Nat} {f : ESem} {e : Expr}
theorem eExt_go {σ : L2.St} {H : Hp} {Q : VK} (h : tE L (eExt j f) σ H Q) : tBM L.X.K "list" rExtend (tVar j) (tA L (aS [f])) σ H Q := by
  obtain ⟨Γ, T, hl, st, h⟩ := h
  unfold eExt at h
  cases ej0 : Γ[j]? with
  | none => rw [ej0] at h; exact h.elim
  | some sl0 =>
  cases sl0 with
  | un => rw [ej0] at h; exact h.elim
  | sh p0 => rw [ej0] at h; exact h.elim
  | ow o0 =>
  rw [ej0] at h
  simp only at h
  by_cases hk : isLst o0 = true
  · rw [if_pos hk] at h
    obtain ⟨v0, hv0⟩ := slot_v hl ej0
    obtain ⟨ad, ea, qa⟩ := st.rel (v0, .ow o0) (List.mem_append_left _ (List.mem_of_getElem? (i := j) (by rw [List.getElem?_zip_eq_some]; exact ⟨hv0, ej0⟩)))
    have ea : v0 = some (.ref ad) := ea
    subst ea
    refine ⟨.ref ad, hv0, ?_, ?_⟩
    · cases o0 with
      | lst ps => obtain ⟨xs, h1, _⟩ := qa; exact .inl ⟨rfl, xs, .of h1⟩
      | _ => cases hk
    · refine tA_bind hl (List.Sublist.refl T) st h fun ds Γ1 vs H1 hl1 o1 h1 => ?_
      match ds, vs, o1, h1 with
      | [.tmp (.lst qs)], [x], o1, h1 =>
        have h1 : Pst L σ T (extO Γ1 j qs) _ := h1
        unfold extO at h1
        cases e2 : Γ1[j]? with
        | none => rw [e2] at h1; exact h1.elim
        | some sl =>
          cases sl with
          | un => rw [e2] at h1; exact h1.elim
          | sh p => rw [e2] at h1; exact h1.elim
          | ow o =>
            cases o with
            | lst ps =>
              rw [e2] at h1
              simp only at h1
              by_cases hz : ps.length + qs.length ≤ sizeLine
              · rw [if_pos hz] at h1
                obtain ⟨b, eb, xs, qb, rb⟩ := o1.st.rel (some (.ref ad), .ow (.lst ps)) (List.mem_append_left _ (zip_mem hv0 e2))
                cases eb
                have hx : (some x, Slot.ow (.lst qs)) ∈ pshs [.tmp (.lst qs)] [x] T := o1.has 0 _ _ rfl rfl
                obtain ⟨b, eb, zs, qz, rz⟩ := o1.st.rel (some x, .ow (.lst qs)) (List.mem_append_right _ hx)
                cases eb
                refine ⟨ad, b, xs, zs, rfl, rfl, qb, qz, by rw [rb.len, rz.len]; exact hz, ?_⟩
                have hu : OwnO L.X.K L.X.mg (upd H1 ad (.lst (xs ++ zs))) ad (.lst (ps ++ qs)) := ⟨_, upd_same, RpA.le (Le.write qb trivial) _ _ (rb.app rz)⟩
                have st3 := St.putS o1.st hv0 e2 hu
                exact h1 (by rw [List.length_set]; exact hl1) .non _ (OpP.fin (fun i z => nomatch z) (pshs_sub [.tmp (.lst qs)] [.ref b] T) (st3.push_val rfl))
              · rw [if_neg hz] at h1; exact h1.elim
            | _ => rw [e2] at h1; exact h1.elim
      | [], _, _, h1 => exact h1.elim
      | .val _ :: _, _, _, h1 => exact h1.elim
      | .plc _ :: _, _, _, h1 => exact h1.elim
      | .tmp (.lst _) :: _ :: _, _, _, h1 => exact h1.elim
      | .tmp (.dK _ _) :: _, _, _, h1 => exact h1.elim
      | .tmp (.dT _ _) :: _, _, _, h1 => exact h1.elim
      | .tmp (.ins _ _ _) :: _, _, _, h1 => exact h1.elim
      | [.tmp (.lst _)], [], o1, h1 => exact absurd o1.len (by simp)
      | [.tmp (.lst _)], _ :: _ :: _, o1, h1 => exact absurd o1.len (by simp)
  · rw [if_neg hk] at h; exact h.elim
theorem m_ext {x : Str} {px apos cpos : Pos} {a : Expr} (hv : PE L.X (.Name x px) (tVar j)) (he : PE L.X a (tE L f)) (hbase : attributeBase (.Name x px) "extend" L.X.env (eval (.Name x px) L.X.env) = eval (.Name x px) L.X.env := by rfl)
    (hfew : ((backTo cpos (starEach [a] L.X.env)).all (fun x => !x.1) && (backToKw cpos (keywordEach [] L.X.env)).all (fun x => x.1.isSome) && decide ([a].length + ([] : List Keyword).length + (if ([] : List Keyword).isEmpty then 0 else 1) < 30)) = true := by rfl)
    (hline : (apos.endLine == cpos.line) = true := by rfl) (hs : starEach [a] L.X.env = (false, eval a L.X.env) :: starEach [] L.X.env := by rfl) (hpl : (backTo cpos (starEach [] L.X.env)).any (·.1) = false := by rfl) : PE L.X (.Call (.Attribute (.Name x px) "extend" apos) [a] [] cpos) (tE L (eExt j f)) :=
  peI (pe_bm PySem.F.plainAttrs_list PySem.F.slot_list_extend PySem.F.type_list_extend mt_extend hv (a_cons he a_nil hs) hbase hfew hline hs hpl) fun σ H Q q => eExt_go q
end
end Mv
end S27_

section S28_
set_option Elab.async false
set_option linter.all false
set_option maxRecDepth 100000
namespace Mv
open PySem PySem.Spec PyProof.Rows L2
/-! ### range(a, b, c) -/
def rgN (i j c : Int) : Nat := (Builtin.Range.rangeSize i j c).toNat
def rg3Ok (i j c : Int) : Bool := decide (c ≠ 0) && decide (c.natAbs < 1073741824) && Builtin.Range.small i j c && decide (0 ≤ Builtin.Range.rangeSize i j c)
def rgL3 (i j c : Int) : List PV := (List.range (rgN i j c)).map fun k : Nat => PV.int (i + k * c)
def pI3 : PV → Option Int
  | .int i => some i
  | _ => none
theorem pI3_some {p : PV} {i : Int} (h : pI3 p = some i) : p = .int i := by
  cases p <;> first | (cases h; rfl) | cases h
def rg3V (ps : List PV) : Option (List PV) := (ps[0]?.bind pI3).bind fun i => (ps[1]?.bind pI3).bind fun j => (ps[2]?.bind pI3).bind fun c => if rg3Ok i j c = true ∧ ps.length = 3 then some (rgL3 i j c) else none
theorem rg3V_some {ps l : List PV} (h : rg3V ps = some l) : ∃ i j c, ps = [.int i, .int j, .int c] ∧ rg3Ok i j c = true ∧ l = rgL3 i j c := by
  unfold rg3V at h
  simp only [Option.bind_eq_some_iff] at h
  obtain ⟨i, ⟨a, ea, ha⟩, j, ⟨b, eb, hb⟩, c, ⟨d, ed, hd⟩, h⟩ := h
  by_cases hk : rg3Ok i j c = true ∧ ps.length = 3
  · rw [if_pos hk] at h
    cases h
    obtain ⟨hk, hl⟩ := hk
    match ps, hl with
    | [x, y, z], _ =>
      cases ea; cases eb; cases ed
      exact ⟨i, j, c, by rw [pI3_some ha, pI3_some hb, pI3_some hd], hk, rfl⟩
  · rw [if_neg hk] at h; cases h
theorem it_rg3 {K : PySem.W.Frag} {mg : Str → Option Value} {T : List RS} {lo c : Int} {n : Nat} : ItOk K mg T (Itc lo c n) ((List.range n).map fun (k : Nat) => PV.int (lo + k * c)) := by
  refine ⟨fun H hT i p e => ?_, fun H hT => by show n ≤ _; simp⟩
  rw [List.getElem?_map] at e
  cases q : (List.range n)[i]? with
  | none => rw [q] at e; cases e
  | some k =>
    rw [q] at e
    have e : PV.int (lo + (k : Nat) * c) = p := Option.some.inj e
    subst e
    obtain ⟨hi, ek⟩ := List.getElem?_eq_some_iff.mp q
    rw [List.getElem_range] at ek
    subst ek
    rw [List.length_range] at hi
    exact ⟨hi, fun x H' ⟨h1, h2⟩ => ⟨.inl h1, h2⟩⟩
def iRg3 (a : ASem) : ISem := fun Γ => (a Γ).bind fun ds Γ' =>
  match (vws Γ' ds).bind rg3V with
  | some l => .ok l Γ'
  | none => .no
theorem i_rg3 {L : Lx} {tg e : Expr} {a : ASem} (h : PI L.X tg e (iRng3 (tA L a))) : PI L.X tg e (tI L (iRg3 a)) := piI h fun σ H R q => by
  obtain ⟨Γ, T, hl, st, q⟩ := q
  refine tA_bind hl (List.Sublist.refl T) st q fun ds Γ1 vs H1 hl1 o1 h1 => ?_
  cases e1 : vws Γ1 ds with
  | none => simp only [e1] at h1; exact h1.elim
  | some ps =>
    cases e2 : rg3V ps with
    | none => simp only [e1, Option.bind_some, e2] at h1; exact h1.elim
    | some l =>
      simp only [e1, Option.bind_some, e2] at h1
      have r := views_of o1.st o1.len o1.has e1
      obtain ⟨i, j, c, rfl, hk, rfl⟩ := rg3V_some e2
      obtain ⟨x, r1, ex, hx, y, r2, ey, hy, z, r3, ez, hz, e3⟩ := r
      subst ex ey ez e3
      unfold rg3Ok at hk
      simp only [Bool.and_eq_true, decide_eq_true_eq] at hk
      obtain ⟨⟨⟨k1, k2⟩, k3⟩, k4⟩ := hk
      exact ⟨i, j, c, rgN i j c, by rw [rv_int hx, rv_int hy, rv_int hz], ⟨k1, k2, k3, by unfold rgN; omega⟩, h1 hl1 _ _ _ (pshs_sub _ _ _) o1.st it_rg3⟩
theorem i_r3 {L : Lx} {tg a b c : Expr} {f g h : ESem} {p pos : Pos} (hm : L.X.mg "range" = none) (ha : PE L.X a (tE L f)) (hb2 : PE L.X b (tE L g)) (hc : PE L.X c (tE L h)) (hg : Gl L.X "range" := by rfl)
    (hs : starEach [a, b, c] L.X.env = (false, eval a L.X.env) :: starEach [b, c] L.X.env := by rfl) (hs2 : starEach [b, c] L.X.env = (false, eval b L.X.env) :: starEach [c] L.X.env := by rfl) (hs3 : starEach [c] L.X.env = (false, eval c L.X.env) :: starEach [] L.X.env := by rfl) (hpl : (backTo pos (starEach [b, c] L.X.env)).any (·.1) = false := by rfl) :
    PI L.X tg (.Call (.Name "range" p) [a, b, c] [] pos) (tI L (iRg3 (aS [f, g, h]))) := i_rg3 (pi_range3 hg hm (a_cons ha (a_cons hb2 (a_cons hc a_nil hs3) hs2) hs) hs hpl)
end Mv
end S28_

section S29_
set_option Elab.async false
set_option linter.all false
set_option maxRecDepth 100000
namespace Mv
open PySem PySem.Spec PyProof.Rows L2
/-! ### list(range(a, b, c)) -/
def rgVc (i c : Int) (n : Nat) : List V := (List.range n).map fun k : Nat => V.int (i + k * c)
theorem vals_rgc {i c : Int} {n : Nat} {acc : Array Value} (h : ItemsOf (fun k v => ∃ t, v = .int (i + k * c) t) acc n) : Vals (rgVc i c n) acc.toList := by
  have e : acc.toList.length = n := by rw [Array.length_toList]; exact h.1
  unfold rgVc
  rw [← e]
  exact vals_of_get acc.toList (fun k : Nat => V.int (i + k * c)) fun j u hj => h.2 j u (by rw [← hj, Array.getElem?_toList])
def tLrg3 (ta : TA) : TE := fun σ H Q => ta σ H fun vs H1 => ∃ (i j c : Int) (n : Nat), vs = [.int i, .int j, .int c] ∧ RgC i j c n ∧ n ≤ 2 ^ 24 ∧ ∀ q, H1 q = none → Q (.ref q) (upd H1 q (.lst (rgVc i c n)))
theorem pe_lrg3 {X : Cx} {a b c : Expr} {ta : TA} {p pos pr qr : Pos} (hc : X.calm = true) (hgl : Gl X "list") (hml : X.mg "list" = none) (hg : Gl X "range") (hm : X.mg "range" = none) (ha : PA X [a, b, c] ta)
    (hs : starEach [a, b, c] X.env = (false, eval a X.env) :: starEach [b, c] X.env) (hpl : (backTo qr (starEach [b, c] X.env)).any (·.1) = false)
    (h0 : starEach [.Call (.Name "range" pr) [a, b, c] [] qr] X.env = (false, eval (.Call (.Name "range" pr) [a, b, c] [] qr) X.env) :: starEach [] X.env) :
    PE X (.Call (.Name "list" p) [.Call (.Name "range" pr) [a, b, c] [] qr] [] pos) (tLrg3 ta) := by
  refine ⟨fun pins s σ H Q I h => ?_⟩
  have key : wpAny (model X.prog X.w) X.A (eval (.Call (.Name "range" pr) [a, b, c] [] qr) X.env) (fun x s' => ∃ r i j d t u v n H', x = .ref r ∧ IsRange s'.heap r i j d t u v ∧ RgC i j d n ∧ n ≤ 2 ^ 24 ∧ Inv X pins σ H' s' ∧ ∀ q, H' q = none → Q (.ref q) (upd H' q (.lst (rgVc i d n)))) X.xe s := by
    refine Call_ (ld_blt I hg hm boot_range (PyProof.Rows.callWith_type1 (thn (ha.run qr pins s σ H _ I h) fun us s1 ⟨vs, H1, I1, r1, q1⟩ => ?_) hs hpl))
    obtain ⟨i, j, d, n, rfl, hr, hn, q⟩ := q1
    rcases r1 with _ | ⟨⟨t, rfl⟩, r1⟩
    rcases r1 with _ | ⟨⟨u, rfl⟩, r1⟩
    rcases r1 with _ | ⟨⟨v, rfl⟩, r1⟩
    cases r1
    exact call_range_3 hr.1 ⟨_, i, j, d, _, _, _, n, H1, rfl, IsRange.new _ _ _ _ _ _ _, hr, hn, I1.kept fun b u e => Heap.get?_push_of_some _ e, q⟩ (.inl (PyProof.noPylong_small hr.2.1))
  refine Call_ (ld_blt I hgl hml boot_list (PyProof.Rows.callWith_type1 (args_cons (thn key fun x s1 ⟨r, i, j, d, t, u, v, n, H1, ex, hr, hk, hn, I1, q⟩ => args_nil ?_) h0) h0))
  subst ex
  obtain ⟨k1, k2, k3, k4⟩ := hk
  refine call_list_range (I1.ok.hd hc) hr k3 k4 hn fun h' tk acc c' keep e' hi => ?_
  refine ⟨.ref s1.heap.objs.size, upd H1 s1.heap.objs.size (.lst (rgVc i d n)), I1.laid keep (Nat.le_refl _) (show ObjOk X.prog X.w _ _ _ (.lst (rgVc i d n)) from ⟨?_, acc.toList, c', vals_rgc hi, ?_⟩), rfl, q _ (I1.hok.fresh (Nat.le_refl _))⟩
  · unfold rgVc; rw [List.length_map, List.length_range, sizeLine_eq]; omega
  · rw [Array.toArray_toList]; exact e'
def eLR3 (a : ASem) : ESem := fun Γ => (a Γ).bind fun ds Γ' =>
  match (vws Γ' ds).bind rg3V with
  | some l => if l.length ≤ 2 ^ 24 then .ok (.tmp (.lst l)) Γ' else .no
  | none => .no
theorem rgVc_rp {K : PySem.W.Frag} {mg : Str → Option Value} {H : Hp} (i j c : Int) : RpA K mg H (rgL3 i j c) (rgVc i c (rgN i j c)) := by
  unfold rgL3 rgVc
  have : ∀ l : List Nat, RpA K mg H (l.map fun (k : Nat) => PV.int (i + k * c)) (l.map fun (k : Nat) => V.int (i + k * c)) := by
    intro l
    induction l with
    | nil => rfl
    | cons n l ih => exact ⟨_, _, rfl, rfl, ih⟩
  exact this _
theorem e_lr3 {L : Lx} {e : Expr} {a : ASem} (h : PE L.X e (tLrg3 (tA L a))) : PE L.X e (tE L (eLR3 a)) := peI h fun σ H R q => by
  obtain ⟨Γ, T, hl, st, q⟩ := q
  refine tA_bind hl (List.Sublist.refl T) st q fun ds Γ1 vs H1 hl1 o1 h1 => ?_
  cases e1 : vws Γ1 ds with
  | none => simp only [e1] at h1; exact h1.elim
  | some ps =>
    cases e2 : rg3V ps with
    | none => simp only [e1, Option.bind_some, e2] at h1; exact h1.elim
    | some l =>
      simp only [e1, Option.bind_some, e2] at h1
      by_cases hl2 : l.length ≤ 2 ^ 24
      · rw [if_pos hl2] at h1
        have r := views_of o1.st o1.len o1.has e1
        obtain ⟨i, j, c, rfl, hk, rfl⟩ := rg3V_some e2
        obtain ⟨x, r1, ex, hx, y, r2, ey, hy, z, r3, ez, hz, e3⟩ := r
        subst ex ey ez e3
        unfold rg3Ok at hk
        simp only [Bool.and_eq_true, decide_eq_true_eq] at hk
        obtain ⟨⟨⟨k1, k2⟩, k3⟩, k4⟩ := hk
        refine ⟨i, j, c, rgN i j c, by rw [rv_int hx, rv_int hy, rv_int hz], ⟨k1, k2, k3, by unfold rgN; omega⟩, ?_, fun q hq => h1 hl1 _ _ (OpP.fin (fun i z => nomatch z) (pshs_sub _ _ _) (o1.st.new_list (rgVc_rp i j c) hq))⟩
        unfold rgL3 at hl2; rw [List.length_map, List.length_range] at hl2; exact hl2
      · rw [if_neg hl2] at h1; exact h1.elim
theorem l_r3 {L : Lx} {a b c : Expr} {f g h : ESem} {p pos pr qr : Pos} (hcm : L.X.calm = true) (hl : L.X.mg "list" = none) (hm : L.X.mg "range" = none) (ha : PE L.X a (tE L f)) (hb2 : PE L.X b (tE L g)) (hc : PE L.X c (tE L h)) (hgl : Gl L.X "list" := by rfl) (hg : Gl L.X "range" := by rfl)
    (hs : starEach [a, b, c] L.X.env = (false, eval a L.X.env) :: starEach [b, c] L.X.env := by rfl) (hs2 : starEach [b, c] L.X.env = (false, eval b L.X.env) :: starEach [c] L.X.env := by rfl) (hs3 : starEach [c] L.X.env = (false, eval c L.X.env) :: starEach [] L.X.env := by rfl) (hpl : (backTo qr (starEach [b, c] L.X.env)).any (·.1) = false := by rfl)
    (h0 : starEach [.Call (.Name "range" pr) [a, b, c] [] qr] L.X.env = (false, eval (.Call (.Name "range" pr) [a, b, c] [] qr) L.X.env) :: starEach [] L.X.env := by rfl) :
    PE L.X (.Call (.Name "list" p) [.Call (.Name "range" pr) [a, b, c] [] qr] [] pos) (tE L (eLR3 (aS [f, g, h]))) := e_lr3 (pe_lrg3 hcm hgl hl hg hm (a_cons ha (a_cons hb2 (a_cons hc a_nil hs3) hs2) hs) hs hpl h0)
end Mv
end S29_

section S30_
set_option Elab.async false
set_option linter.all false
set_option maxRecDepth 100000
namespace Mv
open PySem PySem.Spec PyProof.Rows L2
/-! ### a, b, c = x, y, z where a comprehension looks at one of the names -/
theorem s_parC3 {L : Lx} {i j k : Nat} {st : Stmt} {f : ASem} (hs : PS L.X st (tAsg (tTup (tA L f)) (gTup L.X.K 3 (gCons (gName i) (gCons (gName j) (gCons (gName k) gNil)))))) (hf : ∀ Γ ds Γ', f Γ = .ok ds Γ' → ds.length = 3) (hi : i ∉ L.M.map (·.1)) (hj : j ∉ L.M.map (·.1)) (hk : k ∉ L.M.map (·.1)) (hx : i < L.X.N.length) (hy : j < L.X.N.length) (hz : k < L.X.N.length) : PS L.X st (tS L (parS [i, j, k] f)) := by
  refine ⟨fun pins s σ H D I q => hs.run pins s σ H D I ?_⟩
  have e : σ.length = L.X.N.length := I.len
  obtain ⟨Γ, T, a, b, h⟩ := par_go (σ := σ) (H := H) (D := D) (is := [i, j, k]) (f := f) (by simp; exact ⟨⟨by simpa using hi, by omega⟩, ⟨by simpa using hj, by omega⟩, ⟨by simpa using hk, by omega⟩⟩) q
  refine ⟨Γ, T, a, b, ?_⟩
  cases ef : f Γ with
  | ok ds Γ' =>
    rw [ef] at h
    intro hl vs H' o
    have hd := hf _ _ _ ef
    have hv : vs.length = 3 := o.len.trans hd
    match vs, hv, o with
    | [v, w, u], _, o =>
      refine ⟨Nat.le_trans (show 3 ≤ 16000000 by decide) (by unfold sizeLine; decide), fun p hp => ⟨p, [v, w, u], rfl, ?_, rfl, v, [w, u], rfl, w, [u], rfl, u, [], rfl, rfl, ?_⟩⟩
      · exact .inl (.inl upd_same)
      · exact h hl [v, w, u] (upd H' p (.tup [v, w, u])) ⟨o.st.fresh hp, o.len, o.has⟩ rfl
  | ex x Γ' => rw [ef] at h; exact h
  | no => rw [ef] at h; exact h
end Mv
end S30_

section S31_
set_option Elab.async false
set_option linter.all false
set_option maxRecDepth 100000
namespace Mv
open PySem PySem.Spec PyProof.Rows L2
/-! ### min, max of a tuple of ints -/
section
variable {prog : Program} {w : World} {A : Around} {E : Value → Shared → Prop} {s : Shared}
theorem walk_tup {t : Addr} {its : Array Value} (ht : s.heap.IsTuple t its) {Q : Value → Shared → Prop}
    (h : ∀ I s2, s2.heap.IsTupleIter I t 0 ∧ s2.heap.IsTuple t its → t ≠ I → (∀ b ∈ [I, t], b < s2.heap.objs.size) → (∀ h' : Heap, ∀ tk, (∀ b o, b ∉ [I] → s2.heap.get? b = some o → h'.get? b = some o) → (∀ b o, s.heap.get? b = some o → h'.get? b = some o) ∧ { s2 with heap := h', toks := tk } = { s with heap := h', toks := tk }) → Q (.ref I) s2) :
    wpAny (model prog w) A (pyIter (.ref t)) Q E s := by
  obtain ⟨o, ho, hc, n, hd⟩ := id ht
  refine wpAny_pyIter_tuple ht (h _ _ ⟨⟨_, Heap.get?_push_size _ rfl, rfl, rfl⟩, ht.at fun o e => Heap.get?_push_of_some _ e⟩ (Nat.ne_of_lt (Heap.lt_size ho)) (fun b hb => ?_) fun h' tk hk => ⟨fun b o e => ?_, rfl⟩)
  · rcases List.mem_cons.mp hb with rfl | hb
    · exact Heap.lt_size (Heap.get?_push_size _ rfl)
    · obtain rfl := List.mem_singleton.mp hb
      exact Heap.lt_size (Heap.get?_push_of_some _ ho)
  · exact hk b o (fun hb => absurd (Heap.lt_size e) ((List.mem_singleton.mp hb) ▸ Nat.lt_irrefl _)) (Heap.get?_push_of_some _ e)
theorem minT_raw {t : Addr} {its : List Value} {ns : List Int} {Q : Value → Shared → Prop} (hh : A.handled = none) (ht : s.heap.IsTuple t its.toArray) (hi : IntsAre its ns) (hne : 0 < ns.length)
    (h : ∀ h' tk M t', (∀ b o, s.heap.get? b = some o → h'.get? b = some o) → M ∈ ns → (∀ a ∈ ns, M ≤ a) → Q (.int M t') { s with heap := h', toks := tk }) : wpAny (model prog w) A (call (.builtin "min") [.ref t]) Q E s := by
  obtain ⟨xs, e⟩ := hi.allInts.items
  have hn : numsOf (intItems xs).toList = ns := by rw [← e]; exact hi.numsOf
  rw [nums_intItems] at hn
  subst hn
  rw [e] at ht
  have hsz : 0 < xs.size := by simpa using hne
  have hsz2 : (intItems xs).size = xs.size := by simp [intItems]
  refine call_min_walk (walk_tup ht fun I s2 st hne hfp back => ?_)
  refine ⟨_, _, _, _, _, _, _, rfl, Walks.tuple (A := A.in1) hh I t hne (intItems xs), st, hfp, by omega, CmpOf.ints_lt (numAt xs) (fun _ _ => intItems_at), fun v h' tk hP hk => ?_⟩
  obtain ⟨t', rfl⟩ := intItems_at hP
  obtain ⟨b1, b2⟩ := back h' tk hk
  rw [b2, hsz2]
  obtain ⟨h1, h2⟩ := argBest_lt (numAt xs) (xs.size - 1)
  refine h h' tk _ t' b1 ?_ fun a ha => ?_
  · rw [numAt_eq]; exact PySem.getD_mem (by rw [List.length_map, Array.length_toList]; omega)
  · obtain ⟨j, hj, rfl⟩ := mem_getD ha
    rw [List.length_map, Array.length_toList] at hj
    rw [← numAt_eq]; exact h2 j (by omega)
theorem maxT_raw {t : Addr} {its : List Value} {ns : List Int} {Q : Value → Shared → Prop} (hh : A.handled = none) (ht : s.heap.IsTuple t its.toArray) (hi : IntsAre its ns) (hne : 0 < ns.length)
    (h : ∀ h' tk M t', (∀ b o, s.heap.get? b = some o → h'.get? b = some o) → M ∈ ns → (∀ a ∈ ns, a ≤ M) → Q (.int M t') { s with heap := h', toks := tk }) : wpAny (model prog w) A (call (.builtin "max") [.ref t]) Q E s := by
  obtain ⟨xs, e⟩ := hi.allInts.items
  have hn : numsOf (intItems xs).toList = ns := by rw [← e]; exact hi.numsOf
  rw [nums_intItems] at hn
  subst hn
  rw [e] at ht
  have hsz : 0 < xs.size := by simpa using hne
  have hsz2 : (intItems xs).size = xs.size := by simp [intItems]
  refine call_max_walk (walk_tup ht fun I s2 st hne hfp back => ?_)
  refine ⟨_, _, _, _, _, _, _, rfl, Walks.tuple (A := A.in1) hh I t hne (intItems xs), st, hfp, by omega, CmpOf.ints_gt (numAt xs) (fun _ _ => intItems_at), fun v h' tk hP hk => ?_⟩
  obtain ⟨t', rfl⟩ := intItems_at hP
  obtain ⟨b1, b2⟩ := back h' tk hk
  rw [b2, hsz2]
  obtain ⟨h1, h2⟩ := argBest_gt (numAt xs) (xs.size - 1)
  refine h h' tk _ t' b1 ?_ fun a ha => ?_
  · rw [numAt_eq]; exact PySem.getD_mem (by rw [List.length_map, Array.length_toList]; omega)
  · obtain ⟨j, hj, rfl⟩ := mem_getD ha
    rw [List.length_map, Array.length_toList] at hj
    rw [← numAt_eq]; exact h2 j (by omega)
end
def rMaxT (K : PySem.W.Frag) : List V → Hp → VK → Prop := fun vs H Q => ∃ (a : Addr) (ns : List Int), vs = [V.ref a] ∧ SqT K H a (ns.map V.int) ∧ 0 < ns.length ∧ ∀ m, m ∈ ns → (∀ y ∈ ns, y ≤ m) → Q (.int m) H
def rMinT (K : PySem.W.Frag) : List V → Hp → VK → Prop := fun vs H Q => ∃ (a : Addr) (ns : List Int), vs = [V.ref a] ∧ SqT K H a (ns.map V.int) ∧ 0 < ns.length ∧ ∀ m, m ∈ ns → (∀ y ∈ ns, m ≤ y) → Q (.int m) H
theorem cr_maxT {X : Cx} (hc : X.calm = true) : CallR X (.builtin "max") (rMaxT X.K) := by
  intro pins s σ H vs us Q I r h
  obtain ⟨a, ns, rfl, hs, hne, q⟩ := h
  obtain ⟨its, rv, ht, _⟩ := I.tuple hs
  rw [Vals.ref1 r]
  exact maxT_raw (I.ok.hd hc) ht rv.ints hne fun h' tk m t' hk h1 h2 => ⟨.int _, H, I.kept hk, ⟨_, rfl⟩, q m h1 h2⟩
theorem cr_minT {X : Cx} (hc : X.calm = true) : CallR X (.builtin "min") (rMinT X.K) := by
  intro pins s σ H vs us Q I r h
  obtain ⟨a, ns, rfl, hs, hne, q⟩ := h
  obtain ⟨its, rv, ht, _⟩ := I.tuple hs
  rw [Vals.ref1 r]
  exact minT_raw (I.ok.hd hc) ht rv.ints hne fun h' tk m t' hk h1 h2 => ⟨.int _, H, I.kept hk, ⟨_, rfl⟩, q m h1 h2⟩
def bMaxT : PV → Option Rv
  | .tup ps => (intsL ps).bind fun ns => if ns.isEmpty then none else some (.val (.int (imax ns)))
  | _ => none
def bMinT : PV → Option Rv
  | .tup ps => (intsL ps).bind fun ns => if ns.isEmpty then none else some (.val (.int (imin ns)))
  | _ => none
theorem bMaxT_s {L : Lx} : OpNS L (op1 bMaxT) (rMaxT L.X.K) := op1_s fun rs p z x H Q st hx e hQ => by
  cases p <;> try cases e
  rename_i ps
  have e : (intsL ps).bind (fun ns => if ns.isEmpty then none else some (Rv.val (.int (imax ns)))) = some z := e
  cases e2 : intsL ps with
  | none => rw [e2] at e; cases e
  | some ns =>
    rw [e2] at e
    have e : (if ns.isEmpty then none else some (Rv.val (.int (imax ns)))) = some z := e
    split at e
    · cases e
    · rename_i hne
      cases e
      obtain ⟨a, xs, h1, h2, h3⟩ := rv_tup hx
      rw [ints_some e2] at h3
      rw [h3.intsV] at h2
      exact ⟨a, ns, by rw [h1], h2, by cases ns with | nil => exact absurd rfl hne | cons n r => exact Nat.succ_pos _, fun m hm hle => hQ _ H (st.push_val (by rw [imax_is hm hle]; rfl))⟩
theorem bMinT_s {L : Lx} : OpNS L (op1 bMinT) (rMinT L.X.K) := op1_s fun rs p z x H Q st hx e hQ => by
  cases p <;> try cases e
  rename_i ps
  have e : (intsL ps).bind (fun ns => if ns.isEmpty then none else some (Rv.val (.int (imin ns)))) = some z := e
  cases e2 : intsL ps with
  | none => rw [e2] at e; cases e
  | some ns =>
    rw [e2] at e
    have e : (if ns.isEmpty then none else some (Rv.val (.int (imin ns)))) = some z := e
    split at e
    · cases e
    · rename_i hne
      cases e
      obtain ⟨a, xs, h1, h2, h3⟩ := rv_tup hx
      rw [ints_some e2] at h3
      rw [h3.intsV] at h2
      exact ⟨a, ns, by rw [h1], h2, by cases ns with | nil => exact absurd rfl hne | cons n r => exact Nat.succ_pos _, fun m hm hle => hQ _ H (st.push_val (by rw [imin_is hm hle]; rfl))⟩
def oMax1 := orB (op1 bMaxL) (op1 bMaxT)
def oMin1 := orB (op1 bMinL) (op1 bMinT)
theorem oMax1_s {L : Lx} : OpNS L oMax1 (fun xs H Q => rMax L.X.K xs H Q ∨ rMaxT L.X.K xs H Q) := orB_s bMaxL_s bMaxT_s
theorem oMin1_s {L : Lx} : OpNS L oMin1 (fun xs H Q => rMin L.X.K xs H Q ∨ rMinT L.X.K xs H Q) := orB_s bMinL_s bMinT_s
theorem c_max1 {X : Cx} (hc : X.calm = true) : CallR X (.builtin "max") (fun xs H Q => rMax X.K xs H Q ∨ rMaxT X.K xs H Q) := (cr_max hc).or (cr_maxT hc)
theorem c_min1 {X : Cx} (hc : X.calm = true) : CallR X (.builtin "min") (fun xs H Q => rMin X.K xs H Q ∨ rMinT X.K xs H Q) := (cr_min hc).or (cr_minT hc)
end Mv
end S31_

section S32_
set_option Elab.async false
set_option linter.all false
set_option maxRecDepth 100000
namespace Mv
open PySem PySem.Spec PyProof.Rows L2
/-! ### x or y of a number or None -/
def pth : PV → Option Bool
  | .bl b => some b
  | .int i => some (i != 0)
  | .non => some false
  | _ => none
def vth : V → Option Bool
  | .bl b => some b
  | .int i => some (i != 0)
  | .non => some false
  | _ => none
def tOrG (ta tb : TE) : TE := fun σ H Q => ta σ H fun x H1 => ∃ c, vth x = some c ∧ if c = true then Q x H1 else tb σ H1 Q
theorem pe_orG {X : Cx} {a b : Expr} {rest : List Expr} {pos : Pos} {ta tb : TE} (ha : PE X a ta) (hb : PE X (.BoolOp .Or (b :: rest) pos) tb) : PE X (.BoolOp .Or (a :: b :: rest) pos) (tOrG ta tb) := by
  refine ⟨fun pins s σ H Q I h => ?_⟩
  refine BoolOp_or (thn (ha.run pins s σ H _ I h) fun v s1 ⟨x, H1, I1, r1, q1⟩ => ?_)
  obtain ⟨c, hc, q⟩ := q1
  have fin : ∀ c', vth x = some c' → (if c' = true then EP X pins σ Q v s1 else wpAny (model X.prog X.w) X.A (eval (.BoolOp .Or (b :: rest) pos) X.env) (EP X pins σ Q) X.xe s1) := fun c' e => by
    rw [hc] at e; cases e
    cases c with
    | false => exact hb.run pins s1 σ H1 Q I1 q
    | true => exact ⟨x, H1, I1, r1, q⟩
  cases x <;> try cases hc
  · cases r1
    have := fin _ rfl
    exact truthy_none this
  · rename_i c
    cases r1
    have := fin _ rfl
    exact wpAny_truthy_bool this
  · rename_i i
    obtain ⟨t, rfl⟩ := r1
    have := fin _ rfl
    refine PySem.P.truthy_int ?_
    exact this
def eOrG (f g : ESem) : ESem := fun Γ => (f Γ).bind fun d Γ' => match vw Γ' d with
  | some p => (match pth p with
    | some b => if b then .ok (.val p) Γ' else g Γ'
    | none => .no)
  | none => .no
theorem pth_rv {K : PySem.W.Frag} {mg : Str → Option Value} {H : Hp} {p : PV} {x : V} {b : Bool} (h : RpV K mg H p x) (e : pth p = some b) : vth x = some b ∧ Rp K mg H p x := by
  cases p <;> try cases e
  · have := rv_non h; subst this; exact ⟨rfl, rfl⟩
  · have := rv_bl h; subst this; exact ⟨rfl, rfl⟩
  · have := rv_int h; subst this; exact ⟨rfl, rfl⟩
theorem e_orG {L : Lx} {pos : Pos} {a b : Expr} {rest : List Expr} {f g : ESem} (ha : PE L.X a (tE L f)) (hb : PE L.X (.BoolOp .Or (b :: rest) pos) (tE L g)) : PE L.X (.BoolOp .Or (a :: b :: rest) pos) (tE L (eOrG f g)) := peI (pe_orG ha hb) fun σ H Q q => by
  obtain ⟨Γ, T, hl, st, q⟩ := q
  refine tE_bind hl (List.Sublist.refl T) st q fun d Γ1 x H1 hl1 o1 h1 => ?_
  cases e : vw Γ1 d with
  | none => simp only [e] at h1; exact h1.elim
  | some p =>
    cases e2 : pth p with
    | none => simp only [e, e2] at h1; exact h1.elim
    | some b =>
      simp only [e, e2] at h1
      obtain ⟨h3, h4⟩ := pth_rv (view_of o1.st o1.has e) e2
      refine ⟨b, h3, ?_⟩
      cases b with
      | false => exact ⟨Γ1, T, hl1, o1.back, h1⟩
      | true => exact h1 hl1 _ _ (.mk_val o1.back h4)
end Mv
end S32_

section S33_
set_option Elab.async false
set_option linter.all false
set_option maxRecDepth 100000
namespace Mv
open PySem PySem.Spec PyProof.Rows L2
/-! ### a tuple turned about: t[::-1] -/
theorem rev_ap {n : Nat} {Q : Int × Int × Nat → Shared → Prop} {prog : Program} {w : World} {A : Around} {E : Value → Shared → Prop} {s : Shared} {sl : Addr} {vl vu vs : Value} (hs : s.heap.IsSliceOf sl vl vu vs) (pl : IsPart vl none) (pu : IsPart vu none) (ps : IsPart vs (some (-1)))
    (h : Q ((n : Int) - 1, -1, n) s) : wpAny (model prog w) A (Builtin.Slice.sliceApplied (.ref sl) (pure (n : Int))) Q E s := by
  obtain ⟨os, hos, hcs, hds⟩ := id hs
  unfold Builtin.Slice.sliceApplied Builtin.Slice.sliceFields
  refine wpAny_bind (wpAny_bind (wpAny_field hos hds (x := vl) rfl (wpAny_bind (wpAny_field hos hds (x := vu) rfl (wpAny_bind (wpAny_field hos hds (x := vs) rfl (wpAny_pure ?_)))))))
  refine wpAny_bind (HT.slicePart_ ps ?_)
  show wpAny _ _ (if ((-1 : Int) == 0) = true then _ else _) _ _ s
  rw [if_neg (by decide)]
  refine wpAny_bind (HT.slicePart_ pl (wpAny_bind (HT.slicePart_ pu (wpAny_bind (wpAny_pure ?_)))))
  have e : Builtin.Slice.slicePlaces ((n : Int) - 1) (-1) (-1) = n := by
    unfold Builtin.Slice.slicePlaces
    rw [if_neg (by decide)]
    by_cases c : (n : Int) - 1 > -1
    · rw [if_pos c, show (-(-1) : Int) = 1 from rfl, Int.ediv_one]; omega
    · rw [if_neg c]; omega
  show wpAny _ _ (pure ((n : Int) - 1, (-1 : Int), Builtin.Slice.slicePlaces ((n : Int) - 1) (-1) (-1))) _ _ s
  rw [e]
  exact wpAny_pure h
theorem rev_pick (xs : Array Value) : ((List.range xs.size).filterMap fun (k : Nat) => xs[((xs.size : Int) - 1 + (k : Int) * (-1)).toNat]?).toArray = xs.toList.reverse.toArray := by
  congr 1
  have e : ∀ k ∈ List.range xs.size, xs[((xs.size : Int) - 1 + (k : Int) * (-1)).toNat]? = some (xs.toList.reverse.getD k .none) := fun k hk => by
    have hk := List.mem_range.mp hk
    rw [show ((xs.size : Int) - 1 + (k : Int) * (-1)).toNat = xs.size - 1 - k by omega, List.getD_eq_getElem?_getD, List.getElem?_reverse (by simpa using hk)]
    have h1 : xs.size - 1 - k < xs.size := by omega
    simp [h1]
  rw [show (List.range xs.size).filterMap (fun (k : Nat) => xs[((xs.size : Int) - 1 + (k : Int) * (-1)).toNat]?) = (List.range xs.size).map fun k => xs.toList.reverse.getD k .none from ?_]
  · apply List.ext_getElem
    · simp
    · intro i h1 h2
      rw [List.getElem_map, List.getElem_range, List.getD_eq_getElem?_getD, List.getElem?_eq_getElem h2]; rfl
  · generalize List.range xs.size = L at *
    induction L with
    | nil => rfl
    | cons x L ih => rw [List.filterMap_cons, e x List.mem_cons_self, List.map_cons, ih fun k hk => e k (List.mem_cons_of_mem _ hk)]
theorem item_rev {prog : Program} {w : World} {A : Around} {E : Value → Shared → Prop} {s : Shared} {t sl : Addr} {items : Array Value} {vl vu vs : Value} {Q : Value → Shared → Prop} (ht : IsTup s.heap t items) (hs : s.heap.IsSliceOf sl vl vu vs) (pl : IsPart vl none) (pu : IsPart vu none) (ps : IsPart vs (some (-1)))
    (h : Q (.ref s.heap.objs.size) { s with heap := s.heap.push { cls := .type "tuple", data := .seq items.toList.reverse.toArray } }) (hsz : items.size ≤ sizeLine) : wpAny (model prog w) A (getItem (.ref t) (.ref sl)) Q E s := by
  have hrev : sizeOk (.seq items.toList.reverse.toArray) := by
    show items.toList.reverse.toArray.size ≤ sizeLine
    rw [List.size_toArray, List.length_reverse, Array.length_toList]
    exact hsz
  obtain ⟨os, hos, hcs, hds⟩ := id hs
  have hTs : s.TypeIs (.ref sl) "slice" := ⟨os, hos, hcs⟩
  unfold getItem
  try with_reducible refine wpAny_holding ?_
  first | refine wpAny_bind (wpAny_pure ?_) | skip
  refine wpAny_bind (wpAny_sequenceKey ht.typeIs (by decide) ?_)
  refine wpAny_bind (wpAny_callSpecial?_slot (name := Str.ofString "__getitem__") ht.typeIs PyProof.Rows.slot_tuple_getitem
    (wpAny_call_entry PyProof.Rows.slot_tuple_getitem ht.typeIs entry_tuple_getitem ?_ (args_tuple_getitem _ _)))
  show wpAny _ _ (Builtin.Tuple.tupleItemsOf (.ref t) >>= _) _ _ s
  refine wpAny_bind (tupleItemsOf_ ht ?_)
  refine wpAny_bind (wpAny_typeOf hTs ?_)
  rw [if_pos (by decide)]
  refine wpAny_bind (rev_ap hs pl pu ps ?_)
  have hno : ¬ ((((items.size : Int) - 1) == 0 && (-1 : Int) == 1 && items.size == items.size) = true) := by simp
  show wpAny _ _ (if (((items.size : Int) - 1) == 0 && (-1 : Int) == 1 && items.size == items.size) = true then _ else _) _ _ s
  rw [if_neg hno, rev_pick]
  first
    | exact wpAny_bind (m := Builtin.Tuple.tupleExact _) (wpAny_newObj_type (wpAny_pure ⟨_, rfl, wpAny_pure h⟩) hrev)
    | exact wpAny_bind (m := Builtin.Tuple.tupleExact _) (wpAny_newObj_type (wpAny_bind (wpAny_pure (wpAny_pure ⟨_, rfl, wpAny_pure h⟩))) hrev)
    | exact wpAny_bind (wpAny_bind (m := Builtin.Tuple.tupleExact _) (wpAny_newObj_type (wpAny_pure (wpAny_pure ⟨_, rfl, wpAny_pure h⟩)) hrev))
    | exact wpAny_bind (wpAny_bind (m := Builtin.Tuple.tupleExact _) (wpAny_newObj_type (wpAny_pure ⟨_, rfl, wpAny_pure h⟩) hrev))
def sl3T (p : PV) (lo hi st : Option Int) : Option Rv :=
  match p with
  | .lst ps => if st = some 0 then none else some (.tmp (.lst (slP ps lo hi st)))
  | .tup ps => if lo = none ∧ hi = none ∧ st = some (-1) then some (.val (.tup ps.reverse)) else none
  | _ => none
def sl3m3 (d : Opd) (lo hi st : Option Int) : Env → Rs Opd := fun Γ4 => match (vw Γ4 d).bind fun p => sl3T p lo hi st with
  | some r => .ok r.opd Γ4
  | none => .no
def sl3m2 (k : OSem) (d : Opd) (lo hi : Option Int) : Env → Rs Opd := fun Γ3 => (k Γ3).bind (sl3m3 d lo hi)
def sl3m1 (h k : OSem) (d : Opd) (lo : Option Int) : Env → Rs Opd := fun Γ2 => (h Γ2).bind (sl3m2 k d lo)
def sl3m0 (l h k : OSem) (d : Opd) : Env → Rs Opd := fun Γ1 => (l Γ1).bind (sl3m1 h k d)
def eSl3b (f : ESem) (l h k : OSem) : ESem := fun Γ => (f Γ).bind (sl3m0 l h k)
theorem RpA.rev {K : PySem.W.Frag} {mg : Str → Option Value} {H : Hp} {ps : List PV} {xs : List V} (h : RpA K mg H ps xs) : RpA K mg H ps.reverse xs.reverse := by
  have key : ∀ (ps : List PV) (xs : List V) (as : List PV) (bs : List V), RpA K mg H ps xs → RpA K mg H as bs → RpA K mg H (ps.reverse ++ as) (xs.reverse ++ bs) := by
    intro ps
    induction ps with
    | nil => intro xs as bs h1 h2; cases h1; exact h2
    | cons p ps ih =>
      intro xs as bs h1 h2
      obtain ⟨x, r, rfl, h3, h4⟩ := h1
      rw [List.reverse_cons, List.reverse_cons, List.append_assoc, List.append_assoc]
      exact ih r (p :: as) (x :: bs) h4 ⟨x, bs, rfl, h3, h2⟩
  have := key ps xs [] [] h rfl
  rwa [List.append_nil, List.append_nil] at this
section
variable {L : Lx} {pos p2 : Pos} {e : Expr} {lo hi st : Option Expr} {f : ESem} {l h k : OSem}
theorem e_sl3b {st : Expr} (he : PE L.X e (tE L f)) (hl : PO L.X lo (tO L l)) (hh : PO L.X hi (tO L h)) (hk : PO L.X (some st) (tO L k)) : PE L.X (.Subscript e (.Slice lo hi (some st) p2) pos) (tE L (eSl3b f l h k)) := by
  refine ⟨fun pins s σ H Q I q => ?_⟩
  obtain ⟨Γ, T, hl0, st0, q⟩ := q
  let KK : Opd → Env → Prop := fun d Γ' => ∀ v H', OpP L σ Γ' T d v H' → Q v H'
  have q1 : tE L f σ H fun x H1 => ∃ d Γ1, Γ1.length = σ.length ∧ OpP L σ Γ1 T d x H1 ∧ Pst L σ T (sl3m0 l h k d Γ1) KK := tE_bind hl0 (List.Sublist.refl T) st0 q fun d Γ1 x H1 hl1 o1 h1 => ⟨d, Γ1, hl1, o1, h1⟩
  refine Subscript_ (thn (he.run pins s σ H _ I q1) fun v s1 ⟨x, H1, I1, r1, d, Γ1, hl1, o1, h1⟩ => ?_)
  have q2 : tO L l σ H1 fun a H2 => ∃ Γ2, Γ2.length = σ.length ∧ St L (σ.zip Γ2 ++ psh d x T) H2 ∧ Pst L σ T (sl3m1 h k d a Γ2) KK := tO_bind hl1 (psh_sub d x T) o1.st h1 fun a Γ2 H2 hl2 o2 h2 => ⟨Γ2, hl2, o2, h2⟩
  refine wpAny_Slice (thn (hl.run pins s1 σ H1 _ I1 q2) fun vl s2 ⟨a, H2, I2, pl, Γ2, hl2, o2, h2⟩ => ?_)
  have q3 : tO L h σ H2 fun b H3 => ∃ Γ3, Γ3.length = σ.length ∧ St L (σ.zip Γ3 ++ psh d x T) H3 ∧ Pst L σ T (sl3m2 k d a b Γ3) KK := tO_bind hl2 (psh_sub d x T) o2 h2 fun b Γ3 H3 hl3 o3 h3 => ⟨Γ3, hl3, o3, h3⟩
  refine thn (hh.run pins s2 σ H2 _ I2 q3) fun vu s3 ⟨b, H3, I3, pu, Γ3, hl3, o3, h3⟩ => ?_
  have q4 : tO L k σ H3 fun c H4 => ∃ Γ4, Γ4.length = σ.length ∧ St L (σ.zip Γ4 ++ psh d x T) H4 ∧ Pst L σ T (sl3m3 d a b c Γ4) KK := tO_bind hl3 (psh_sub d x T) o3 h3 fun c Γ4 H4 hl4 o4 h4 => ⟨Γ4, hl4, o4, h4⟩
  refine thn (hk.run pins s3 σ H3 _ I3 q4) fun vs s4 ⟨c, H4, I4, ps, Γ4, hl4, o4, h4⟩ => ?_
  unfold sl3m3 at h4
  have I5 : L2.Inv L.X pins σ H4 { s4 with heap := s4.heap.push { cls := .type "slice", data := .fields #[vl, vu, vs] } } := I4.kept (t' := s4.toks) fun b ob q => Heap.get?_push_of_some _ q
  cases ev : vw Γ4 d with
  | none => simp only [ev, Option.bind_none] at h4; exact h4.elim
  | some p =>
    simp only [ev, Option.bind_some] at h4
    have rv := view_of o4 o1.has ev
    cases p with
    | lst pz =>
      simp only [sl3T] at h4
      by_cases hz : c = some 0
      · rw [if_pos hz] at h4; exact h4.elim
      · rw [if_neg hz] at h4
        obtain ⟨ad, xs, e1, e2, e3⟩ := rv_lst rv
        subst e1
        cases r1
        obtain ⟨its, r, ht, hsz⟩ := I5.list e2
        have hsz' : its.length ≤ sizeLine := by rw [← r.length]; exact hsz
        refine tail_any (ops := [.ref ad, .ref s4.heap.objs.size]) ht.isList.typeIs slot_list_getitem.lookup ?_ (by with_unfolding_all rfl)
        refine wpAny_getItem_list_slice ht.isList (Heap.IsSliceOf.new ..) pl pu ps hz ?_ (by rw [List.size_toArray]; exact hsz')
        have ep : slicePick its.toArray a b c = (slP its a b c).toArray := by
          unfold slicePick slP slIx
          simp only [List.size_toArray, List.getElem?_toArray]
        rw [ep]
        have el : slP its a b c = (slIx xs.length a b c).filterMap (its[·]?) := by unfold slP; rw [r.length]
        have len : (slP xs a b c).length ≤ sizeLine := by
          have := slicePick_size_le its.toArray a b c
          rw [ep, List.size_toArray, List.size_toArray] at this
          have e2 := (vals_pick r (slIx xs.length a b c)).length
          rw [← el] at e2
          show ((slIx xs.length a b c).filterMap (xs[·]?)).length ≤ _
          omega
        have hn : H4 (s4.heap.push { cls := .type "slice", data := .fields #[vl, vu, vs] }).objs.size = none := I5.hok.fresh (Nat.le_refl _)
        refine ⟨.ref _, _, I5.laid (t' := s4.toks) (o := .lst (slP xs a b c)) (fun b ob q => Heap.get?_push_of_some _ q) (Nat.le_refl _) ⟨len, slP its a b c, 0, ?_, Heap.get?_push_size _ rfl⟩, rfl, ?_⟩
        · rw [el]; exact vals_pick r _
        · refine h4 hl4 _ _ (OpP.fin (fun i z => nomatch z) (psh_sub d _ T) (o4.new_list ?_ hn))
          have := e3.pick (slIx pz.length a b c)
          unfold slP
          rw [e3.len]
          exact this
    | tup pz =>
      simp only [sl3T] at h4
      by_cases hz : a = none ∧ b = none ∧ c = some (-1)
      · rw [if_pos hz] at h4
        obtain ⟨rfl, rfl, rfl⟩ := hz
        obtain ⟨ad, xs, e1, e2, e3⟩ := rv_tup rv
        subst e1
        cases r1
        obtain ⟨its, r, ht, hsz⟩ := I5.tuple e2
        have hsz' : its.length ≤ sizeLine := by rw [← r.length]; exact hsz
        refine tail_any (ops := [.ref ad, .ref s4.heap.objs.size]) ht.typeIs PyProof.Rows.slot_tuple_getitem.lookup ?_ (by with_unfolding_all rfl)
        refine item_rev ht (Heap.IsSliceOf.new ..) pl pu ps ?_ (by rw [List.size_toArray]; exact hsz')
        have hn : H4 (s4.heap.push { cls := .type "slice", data := .fields #[vl, vu, vs] }).objs.size = none := I5.hok.fresh (Nat.le_refl _)
        have vr : Vals xs.reverse its.reverse := by
          have key : ∀ (xs : List V) (us : List Value) (as : List V) (bs : List Value), Vals xs us → Vals as bs → Vals (xs.reverse ++ as) (us.reverse ++ bs) := by
            intro xs
            induction xs with
            | nil => intro us as bs h1 h2; cases h1; exact h2
            | cons p ps ih =>
              intro us as bs h1 h2
              cases h1 with
              | cons h3 h4 =>
                rw [List.reverse_cons, List.reverse_cons, List.append_assoc, List.append_assoc]
                exact ih _ _ _ h4 (.cons h3 h2)
          have := key xs its [] [] r .nil
          rwa [List.append_nil, List.append_nil] at this
        refine ⟨.ref _, _, I5.laid (t' := s4.toks) (o := .tup xs.reverse) (fun b ob q => Heap.get?_push_of_some _ q) (Nat.le_refl _) ⟨by rw [List.length_reverse]; exact hsz, its.reverse, vr, IsTup.new _ _⟩, rfl, ?_⟩
        exact h4 hl4 _ _ (OpP.fin (fun i z => nomatch z) (psh_sub d _ T) (o4.new_tup e3.rev hn))
      · rw [if_neg hz] at h4; exact h4.elim
    | _ => exact h4.elim
end
end Mv
end S33_

section S34_
set_option Elab.async false
set_option linter.all false
set_option maxRecDepth 100000
namespace Mv
open PySem PySem.Spec PyProof.Rows L2
/-! ### dicts with numbers and texts as keys -/
def dAt : List Key → List PV → Key → Option PV
  | k :: ks, p :: ps, j => if k = j then some p else dAt ks ps j
  | _, _, _ => none
def dRep : List Key → List PV → Key → PV → List PV
  | k :: ks, p :: ps, j, q => (if k = j then q else p) :: dRep ks ps j q
  | _, ps, _, _ => ps
def pkey : PV → Option Key
  | .int i => some (.inl i)
  | .str s => some (.inr s)
  | _ => none
theorem pkey_rv {K : PySem.W.Frag} {mg : Str → Option Value} {H : Hp} {p : PV} {x : V} {k : Key} (h : RpV K mg H p x) (e : pkey p = some k) : x = kV k := by
  cases p <;> try cases e
  · exact rv_int h
  · exact rv_str h
theorem rv_dK {K : PySem.W.Frag} {mg : Str → Option Value} {H : Hp} {ks : List Key} {ps : List PV} {x : V} (h : RpV K mg H (.dK ks ps) x) : ∃ a kvs, x = .ref a ∧ Rd H a (.dK kvs) ∧ kvs.map (·.1) = ks ∧ RpA K mg H ps (kvs.map (·.2)) := by
  rcases h with ⟨a, kvs, o, e, h1, h2, h3⟩ | ⟨a, o, e1, e, h⟩
  · exact ⟨a, kvs, e, .inr ⟨o, h1⟩, h2, h3⟩
  · cases o with
    | dK qs rs =>
      cases e
      obtain ⟨kvs, h1, h2, h3⟩ := h
      exact ⟨a, kvs, e1, .inl h1, h2, h3⟩
    | _ => cases e
theorem dAt_val {K : PySem.W.Frag} {mg : Str → Option Value} {H : Hp} {k : Key} : ∀ {kvs : List (Key × V)} {ks : List Key} {ps : List PV}, kvs.map (·.1) = ks → RpA K mg H ps (kvs.map (·.2)) →
    match dAt ks ps k with | some p => ∃ v, valV kvs k = some v ∧ Rp K mg H p v | none => valV kvs k = none
  | [], ks, ps, hk, hp => by
    cases hk
    unfold dAt
    rfl
  | (j, v) :: kvs, ks, ps, hk, hp => by
    cases hk
    cases ps with
    | nil => cases hp
    | cons p ps =>
      obtain ⟨x, r, e, h1, h2⟩ := hp
      cases e
      show match (if j = k then some p else dAt (kvs.map (·.1)) ps k) with | some p => _ | none => _
      by_cases c : j = k
      · rw [if_pos c]
        exact ⟨v, valV_pos (p := (j, v)) c, h1⟩
      · rw [if_neg c]
        have := dAt_val (k := k) (kvs := kvs) (ps := ps) rfl h2
        rw [valV_neg (p := (j, v)) c]
        exact this
def ixD : PV → PV → Option Rv
  | .dK ks ps, q => (pkey q).bind fun k => (dAt ks ps k).map .val
  | _, _ => none
def inD (p q : PV) : Option Bool := match q with
  | .dK ks ps => (pkey p).map fun k => (dAt ks ps k).isSome
  | _ => none
def oInD (p q : PV) : Option Rv := (inD p q).map fun b => .val (.bl b)
def oNinD (p q : PV) : Option Rv := (inD p q).map fun b => .val (.bl (!b))
def rGetD : R2 := fun x y H Q => ∃ a v, x = .ref a ∧ DGet H a y (some v) ∧ Q v H
def rInD : R2 := fun y x H Q => ∃ a o, x = .ref a ∧ DGet H a y o ∧ Q (.bl o.isSome) H
def rNinD : R2 := fun y x H Q => ∃ a o, x = .ref a ∧ DGet H a y o ∧ Q (.bl (!o.isSome)) H
theorem ix_d {X : Cx} (hu : X.A.units + 1 < cLine) : IxR X rGetD := by
  intro value slice pins s σ H x y v u Q I rx ry h hs
  obtain ⟨a, w, rfl, g, q⟩ := h
  obtain rfl : v = Value.ref a := rx
  exact tail_any (dict_typeIs I g) slot_dict_getitem.lookup (d_getItem hu I g ry fun w' s' I' r => ⟨w, H, I', r, q⟩) hs
theorem op_inD {X : Cx} (hu : X.A.units + 1 < cLine) : OpR X (compareOp .In) rInD := by
  intro pins s σ H x y v u Q I rx ry h
  obtain ⟨a, o, rfl, g, q⟩ := h
  obtain rfl : u = Value.ref a := ry
  exact d_in hu I g rx fun s' I' => ⟨.bl o.isSome, H, I', rfl, q⟩
theorem op_ninD {X : Cx} (hu : X.A.units + 1 < cLine) : OpR X (compareOp .NotIn) rNinD := by
  intro pins s σ H x y v u Q I rx ry h
  obtain ⟨a, o, rfl, g, q⟩ := h
  obtain rfl : u = Value.ref a := ry
  exact d_notIn hu I g rx fun s' I' => ⟨.bl (!o.isSome), H, I', rfl, q⟩
theorem ixD_s {L : Lx} : Op2S L ixD rGetD := fun rs p q z x y H Q st hx hy e hQ => by
  cases p <;> try cases e
  rename_i ks ps
  have e : ((pkey q).bind fun k => (dAt ks ps k).map Rv.val) = some z := e
  cases e1 : pkey q with
  | none => rw [e1] at e; cases e
  | some k =>
    rw [e1, Option.bind_some] at e
    obtain ⟨a, kvs, h1, h2, h3, h4⟩ := rv_dK hx
    have h5 := dAt_val (k := k) h3 h4
    cases e2 : dAt ks ps k with
    | none => rw [e2] at e; cases e
    | some w =>
      rw [e2] at e h5
      cases e
      obtain ⟨v, h6, h7⟩ := h5
      exact ⟨a, v, h1, .inl ⟨kvs, k, h2, pkey_rv hy e1, h6.symm⟩, hQ _ H (st.push_val h7)⟩
theorem inD_get {K : PySem.W.Frag} {mg : Str → Option Value} {H : Hp} {p q : PV} {x y : V} {b : Bool} (hx : RpV K mg H p x) (hy : RpV K mg H q y) (e : inD p q = some b) : ∃ a o, y = .ref a ∧ DGet H a x o ∧ b = o.isSome := by
  cases q <;> try cases e
  rename_i ks ps
  have e : (pkey p).map (fun k => (dAt ks ps k).isSome) = some b := e
  cases e1 : pkey p with
  | none => rw [e1] at e; cases e
  | some k =>
    rw [e1] at e
    cases e
    obtain ⟨a, kvs, h1, h2, h3, h4⟩ := rv_dK hy
    have h5 := dAt_val (k := k) h3 h4
    refine ⟨a, valV kvs k, h1, .inl ⟨kvs, k, h2, pkey_rv hx e1, rfl⟩, ?_⟩
    cases e2 : dAt ks ps k with
    | none =>
      rw [e2] at h5
      have h5 : valV kvs k = none := h5
      show (dAt ks ps k).isSome = _
      rw [e2, h5]; rfl
    | some w =>
      rw [e2] at h5
      obtain ⟨v, h6, _⟩ := h5
      show (dAt ks ps k).isSome = _
      rw [e2, h6]; rfl
theorem oInD_s {L : Lx} : Op2S L oInD rInD := fun rs p q z x y H Q st hx hy e hQ => by
  have e : (inD p q).map (fun b => Rv.val (.bl b)) = some z := e
  cases e1 : inD p q with
  | none => rw [e1] at e; cases e
  | some b =>
    rw [e1] at e
    cases e
    obtain ⟨a, o, h1, h2, rfl⟩ := inD_get hx hy e1
    exact ⟨a, o, h1, h2, hQ _ H (st.push_val rfl)⟩
theorem oNinD_s {L : Lx} : Op2S L oNinD rNinD := fun rs p q z x y H Q st hx hy e hQ => by
  have e : (inD p q).map (fun b => Rv.val (.bl (!b))) = some z := e
  cases e1 : inD p q with
  | none => rw [e1] at e; cases e
  | some b =>
    rw [e1] at e
    cases e
    obtain ⟨a, o, h1, h2, rfl⟩ := inD_get hx hy e1
    exact ⟨a, o, h1, h2, hQ _ H (st.push_val rfl)⟩
/-- d[k] = v -/
def dPut (ks : List Key) (ps : List PV) (k : Key) (p : PV) : List Key × List PV := if (dAt ks ps k).isSome then (ks, dRep ks ps k p) else (ks ++ [k], ps ++ [p])
def stD : OV → PV → PV → Option OV
  | .dK ks ps, q, v => (pkey q).bind fun k => if ks.length < sizeLine then some (.dK (dPut ks ps k v).1 (dPut ks ps k v).2) else none
  | _, _, _ => none
theorem rep_map {K : PySem.W.Frag} {mg : Str → Option Value} {H : Hp} {k : Key} {p : PV} {v : V} (hv : Rp K mg H p v) : ∀ {kvs : List (Key × V)} {ps : List PV}, RpA K mg H ps (kvs.map (·.2)) →
    RpA K mg H (dRep (kvs.map (·.1)) ps k p) ((kvs.map fun kv => if kv.1 = k then (kv.1, v) else kv).map (·.2))
  | [], ps, h => h
  | (j, w) :: kvs, ps, h => by
    cases ps with
    | nil => cases h
    | cons q ps =>
      obtain ⟨x, r, e, h1, h2⟩ := h
      cases e
      show RpA K mg H ((if j = k then p else q) :: dRep (kvs.map (·.1)) ps k p) _
      rw [List.map_cons, List.map_cons]
      refine ⟨(if j = k then (j, v) else (j, w)).2, _, rfl, ?_, rep_map hv h2⟩
      by_cases c : j = k
      · rw [if_pos c, if_pos c]; exact hv
      · rw [if_neg c, if_neg c]; exact h1
theorem rep_keys (kvs : List (Key × V)) (k : Key) (v : V) : (kvs.map fun kv => if kv.1 = k then (kv.1, v) else kv).map (·.1) = kvs.map (·.1) := by
  rw [List.map_map]
  refine List.map_congr_left fun kv _ => ?_
  show (if kv.1 = k then (kv.1, v) else kv).1 = kv.1
  split <;> rfl
theorem RpA.snocD {K : PySem.W.Frag} {mg : Str → Option Value} {H : Hp} {p : PV} {v : V} (hv : Rp K mg H p v) : ∀ {ps : List PV} {xs : List V}, RpA K mg H ps xs → RpA K mg H (ps ++ [p]) (xs ++ [v])
  | [], xs, h => by cases h; exact ⟨v, [], rfl, hv, rfl⟩
  | q :: ps, xs, h => by
    obtain ⟨x, r, rfl, h1, h2⟩ := h
    exact ⟨x, _, rfl, h1, RpA.snocD hv h2⟩
theorem stD_w {L : Lx} : OpW L stD rSetD := fun a o o' q p i v H Q ho hq hp e hQ => by
  cases o <;> try cases e
  rename_i ks ps
  have e : ((pkey q).bind fun k => if ks.length < sizeLine then some (OV.dK (dPut ks ps k p).1 (dPut ks ps k p).2) else none) = some o' := e
  cases e1 : pkey q with
  | none => rw [e1] at e; cases e
  | some k =>
    rw [e1, Option.bind_some] at e
    by_cases hz : ks.length < sizeLine
    · rw [if_pos hz] at e
      cases e
      obtain ⟨kvs, h1, h2, h3⟩ := ho
      subst h2
      refine ⟨a, _, rfl, .inl ⟨kvs, k, h1, pkey_rv hq e1, by simpa using hz, rfl⟩, hQ _ ⟨putK kvs k v, upd_same, ?_⟩⟩
      have h5 := dAt_val (k := k) rfl h3
      unfold putK dPut
      rw [valV_any]
      have mo : Le H (upd H a (.dK (putK kvs k v))) := Le.write h1 trivial
      unfold putK at mo
      rw [valV_any] at mo
      cases e2 : dAt (kvs.map (·.1)) ps k with
      | none =>
        rw [e2] at h5
        have h5 : valV kvs k = none := h5
        rw [h5] at mo ⊢
        rw [if_neg (by simp)] at mo ⊢
        exact ⟨by simp, by rw [List.map_append]; exact RpA.snocD (Rp.le mo _ _ hp) (RpA.le mo _ _ h3)⟩
      | some w =>
        rw [e2] at h5
        obtain ⟨v', h6, _⟩ := h5
        rw [h6] at mo ⊢
        rw [if_pos (by simp)] at mo ⊢
        exact ⟨rep_keys kvs k v, RpA.le mo _ _ (rep_map hp h3)⟩
    · rw [if_neg hz] at e; cases e
/-- {} -/
def eDn : ESem := fun Γ => .ok (.tmp (.dK [] [])) Γ
section
variable {L : Lx} {e e2 a b : Expr} {f g : ESem} {pos : Pos} {k : Nat}
theorem e_dn : PE L.X (.Dict [] [] pos) (tE L eDn) := peI pe_dnewK fun σ H Q q => by
  obtain ⟨Γ, T, hl, st, q⟩ := q
  exact fun p hp => q hl _ _ (OpP.fin (fun i z => nomatch z) (List.Sublist.refl T) (st.push_own hp ⟨[], upd_same, rfl, rfl⟩))
theorem e_ixD (hr : RoomG k L.X.A) (ha : PE L.X a (tE L f)) (hb : PE L.X b (tE L g)) (hs : PlainIx b := by intro _ _; rfl) : PE L.X (.Subscript a b pos) (tE L (eBin ixD f g)) :=
  peI (pe_ix (ix_d (by have := hr.r.un; omega)) ha hb hs) fun _ _ _ h => bin_go ixD_s h
theorem gxD {j : Nat} {x : Str} {px : Pos} (hr : RoomG k L.X.A) (hv : PE L.X (.Name x px) (tVar j)) (hb : PE L.X b (tE L f))
    (ha : ∀ v, assign (.Subscript (.Name x px) b pos) L.X.env v = (do
      let ov ← holding [v] (eval (.Name x px) L.X.env)
      let iv ← holding [v, ov] (eval b L.X.env)
      standAt pos
      holding [v, ov, iv] (setItem ov iv v)
      release [v, ov, iv] []) := by intro _; rfl) : PG L.X (.Subscript (.Name x px) b pos) (tG L (gI stD j f)) := g_ix stD_w (set_dict (by have := hr.r.un; omega)) hv hb ha
theorem k_inD (hr : RoomG k L.X.A) (ha : PE L.X e (tE L f)) (hb : PE L.X e2 (tE L g)) (hm : behindInMarks .In e2 = false := by rfl) : PE L.X (.Compare e [.In] [e2] pos) (tE L (eBin oInD f g)) := e_cmp (op_inD (by have := hr.r.un; omega)) oInD_s ha hb hm
theorem k_ninD (hr : RoomG k L.X.A) (ha : PE L.X e (tE L f)) (hb : PE L.X e2 (tE L g)) (hm : behindInMarks .NotIn e2 = false := by rfl) : PE L.X (.Compare e [.NotIn] [e2] pos) (tE L (eBin oNinD f g)) := e_cmp (op_ninD (by have := hr.r.un; omega)) oNinD_s ha hb hm
theorem t_inD (hr : RoomG k L.X.A) (ha : PE L.X e (tE L f)) (hb : PE L.X e2 (tE L g)) (hm : behindInMarks .In e2 = false := by rfl) : PT L.X (.Compare e [.In] [e2] pos) (tT L (tV (eBin oInD f g))) := t_cmp (op_inD (by have := hr.r.un; omega)) oInD_s ha hb hm
theorem t_ninD (hr : RoomG k L.X.A) (ha : PE L.X e (tE L f)) (hb : PE L.X e2 (tE L g)) (hm : behindInMarks .NotIn e2 = false := by rfl) : PT L.X (.Compare e [.NotIn] [e2] pos) (tT L (tV (eBin oNinD f g))) := t_cmp (op_ninD (by have := hr.r.un; omega)) oNinD_s ha hb hm
end
end Mv
end S34_

section S35_
set_option Elab.async false
set_option linter.all false
set_option maxRecDepth 100000
namespace Mv
open PySem PySem.Spec PyProof.Rows L2
/-! ### divmod by greater divisors -/
def divOkW (j : Int) : Bool := decide (0 < j) && decide (j.natAbs.log2 < 9000)
def CDivG (j : Int) : Prop := 0 < j ∧ j.natAbs.log2 < 9000
theorem cr_divmodW {X : Cx} : CallR X (.builtin "divmod") (fun xs H Q => ∃ i j, xs = [.int i, .int j] ∧ CDivG j ∧ ∀ p, H p = none → Q (.ref p) (upd H p (.tup [.int (i / j), .int (i % j)]))) := by
  intro pins s σ H xs us Q I r h
  obtain ⟨i, j, rfl, ⟨h1, h2⟩, q⟩ := h
  obtain ⟨u, w', rfl, ⟨t, rfl⟩, ⟨t', rfl⟩⟩ := vals2 r
  refine divmod_int (by omega) ?_ (.inl (PyProof.noPylong_of_log2 h2))
  have e1 : i.fdiv j = i / j := Int.fdiv_eq_ediv_of_nonneg i (by omega)
  have e2 : i.fmod j = i % j := Int.fmod_eq_emod_of_nonneg i (by omega)
  rw [e1, e2]
  have hn : H s.heap.objs.size = none := I.hok.fresh (Nat.le_refl _)
  refine ⟨.ref s.heap.objs.size, _, I.laid (o := .tup [.int (i / j), .int (i % j)]) (fun b o e => Heap.get?_push_of_some _ e) (Nat.le_refl _) ⟨?_, [.int (i / j) s.toks, .int (i % j) (s.toks + 1)], .cons ⟨_, rfl⟩ (.cons ⟨_, rfl⟩ .nil), ?_⟩, rfl, q _ hn⟩
  · show 2 ≤ sizeLine
    rw [sizeLine_eq]; decide
  · exact ⟨_, Heap.get?_push_size s.heap rfl, rfl, 0, rfl⟩
def bDivmodW : PV → PV → Option Rv
  | .int i, .int j => if divOkW j then some (.val (.tup [.int (i / j), .int (i % j)])) else none
  | _, _ => none
theorem bDivmodW_s {L : Lx} : OpNS L (op2 bDivmodW) (fun xs H Q => ∃ i j, xs = [.int i, .int j] ∧ CDivG j ∧ ∀ p, H p = none → Q (.ref p) (upd H p (.tup [.int (i / j), .int (i % j)]))) := op2_s fun rs p q z x y H Q st hx hy e hQ => by
  cases p <;> try cases e
  cases q <;> try cases e
  rename_i i j
  have e : (if divOkW j then some (Rv.val (.tup [.int (i / j), .int (i % j)])) else none) = some z := e
  split at e
  · rename_i hd
    cases e
    unfold divOkW at hd
    simp only [Bool.and_eq_true, decide_eq_true_eq] at hd
    exact ⟨i, j, by rw [rv_int hx, rv_int hy], hd, fun p hp => hQ _ _ (st.new_tup (ps := [.int (i / j), .int (i % j)]) (RpA.of_ints [i / j, i % j]) hp)⟩
  · cases e
/-! ### tuples of ints: which one is less -/
def ltT : PV → PV → Option Rv
  | .tup ps, .tup qs => (intsL ps).bind fun ns => (intsL qs).map fun ms => .val (.bl (HT.lexLt ns ms))
  | _, _ => none
def oLtA (p q : PV) : Option Rv := match oLt p q with | some z => some z | none => ltT p q
theorem ltT_s {L : Lx} : Op2S L ltT (rLtT L.X.K) := fun rs p q z x y H Q st hx hy e hQ => by
  cases p <;> try cases e
  cases q <;> try cases e
  rename_i ps qs
  have e : ((intsL ps).bind fun ns => (intsL qs).map fun ms => Rv.val (.bl (HT.lexLt ns ms))) = some z := e
  cases e1 : intsL ps with
  | none => rw [e1] at e; cases e
  | some ns =>
    rw [e1, Option.bind_some] at e
    cases e2 : intsL qs with
    | none => rw [e2] at e; cases e
    | some ms =>
      rw [e2] at e
      cases e
      obtain ⟨a, xs, h1, h2, h3⟩ := rv_tup hx
      obtain ⟨b, ys, g1, g2, g3⟩ := rv_tup hy
      rw [ints_some e1] at h3
      rw [ints_some e2] at g3
      rw [h3.intsV] at h2
      rw [g3.intsV] at g2
      exact ⟨a, b, ns, ms, h1, g1, h2, g2, hQ _ H (st.push_val rfl)⟩
section
variable {L : Lx} {e e2 : Expr} {f g : ESem} {pos : Pos} {k : Nat}
theorem k_ltA (hr : RoomG k L.X.A) (ha : PE L.X e (tE L f)) (hb : PE L.X e2 (tE L g)) (hm : behindInMarks .Lt e2 = false := by rfl) : PE L.X (.Compare e [.Lt] [e2] pos) (tE L (eBin oLtA f g)) :=
  e_cmp (op_lt.or (op_ltT (by have := hr.r.un; omega))) (fun rs p q z x y H Q st hx hy e hQ => by
    unfold oLtA at e
    cases e1 : oLt p q with
    | some w => rw [e1] at e; cases e; exact .inl (cInt_s rs p q _ x y H Q st hx hy e1 hQ)
    | none => rw [e1] at e; exact .inr (ltT_s rs p q z x y H Q st hx hy e hQ)) ha hb hm
end
end Mv
end S35_

section S36_
set_option Elab.async false
set_option linter.all false
set_option maxRecDepth 100000
namespace Mv
open PySem PySem.Spec PyProof.Rows L2
/-! ### {k: v} of two numbers; d.get(k, v); sorted(d) -/
theorem upd_two (H : Hp) (p : Addr) (u w : HO) : upd (upd H p u) p w = upd H p w := by
  funext a
  unfold upd
  by_cases c : a = p
  · simp [c]
  · simp [c]
def eDc (k i : Int) : ESem := fun Γ => .ok (.tmp (.dK [.inl k] [.int i])) Γ
theorem e_dc {L : Lx} {k i : Int} {j j2} {p1 p2 pos : Pos} : PE L.X (.Dict [some (.Constant (.int k) j p1)] [.Constant (.int i) j2 p2] pos) (tE L (eDc k i)) :=
  peI (pe_disp (pps_cons pe_int pe_int pps_nil) rfl rfl (by simp) (by simp)) fun σ H Q q => by
    obtain ⟨Γ, T, hl, st, q⟩ := q
    intro p hp
    refine ⟨upd_same, [(.inl k, .int i)], rfl, by simp, ?_⟩
    rw [upd_two]
    exact q hl _ _ (OpP.fin (fun i z => nomatch z) (List.Sublist.refl T) (st.push_own (o := .dK [.inl k] [.int i]) hp ⟨[(.inl k, .int i)], upd_same, rfl, _, _, rfl, rfl, rfl⟩))
def isDk : Option PV → Bool
  | some (.dK _ _) => true
  | _ => false
def getD3 (p q r : PV) : Option PV := match p with
  | .dK ks ps => (pkey q).bind fun k => (pth r).map fun _ => (dAt ks ps k).getD r
  | _ => none
def eGet (f g h : ESem) : ESem := fun Γ => (f Γ).bind fun d Γ1 => if isDk (vw Γ1 d) then (g Γ1).bind fun dk Γ2 => (h Γ2).bind fun dd Γ3 => match vw Γ3 d, vw Γ3 dk, vw Γ3 dd with
  | some p, some q, some r => (match getD3 p q r with | some v => .ok (.val v) Γ3 | none => .no)
  | _, _, _ => .no
  else .no
theorem isDk_some {o : Option PV} (h : isDk o = true) : ∃ ks ps, o = some (.dK ks ps) := by
  cases o with
  | none => cases h
  | some p => cases p <;> first | exact ⟨_, _, rfl⟩ | cases h
theorem getD3_rv {K : PySem.W.Frag} {mg : Str → Option Value} {H : Hp} {p q r v : PV} {x y z : V} (hx : RpV K mg H p x) (hy : RpV K mg H q y) (hz : RpV K mg H r z) (e : getD3 p q r = some v) : ∃ a o, x = .ref a ∧ DGet H a y o ∧ Rp K mg H v (o.getD z) := by
  cases p <;> try cases e
  rename_i ks ps
  have e : ((pkey q).bind fun k => (pth r).map fun _ => (dAt ks ps k).getD r) = some v := e
  cases e1 : pkey q with
  | none => rw [e1] at e; cases e
  | some k =>
    rw [e1, Option.bind_some] at e
    cases e2 : pth r with
    | none => rw [e2] at e; cases e
    | some b =>
      rw [e2] at e
      cases e
      obtain ⟨a, kvs, h1, h2, h3, h4⟩ := rv_dK hx
      have h5 := dAt_val (k := k) h3 h4
      refine ⟨a, valV kvs k, h1, .inl ⟨kvs, k, h2, pkey_rv hy e1, rfl⟩, ?_⟩
      cases e3 : dAt ks ps k with
      | none =>
        rw [e3] at h5
        have h5 : valV kvs k = none := h5
        rw [h5]
        exact (pth_rv hz e2).2
      | some w =>
        rw [e3] at h5
        obtain ⟨v', h6, h7⟩ := h5
        rw [h6]
        exact h7
theorem e_get {L : Lx} {o a b : Expr} {apos cpos : Pos} {f g h : ESem} {k : Nat} (hr : RoomG k L.X.A) (ho : PE L.X o (tE L f)) (ha : PE L.X a (tE L g)) (hb : PE L.X b (tE L h)) (m : M2 L.X o "get" apos a b cpos := by exact ⟨rfl, rfl, rfl, rfl⟩) :
    PE L.X (.Call (.Attribute o "get" apos) [a, b] [] cpos) (tE L (eGet f g h)) := peI (pe_dget2 (by have := hr.r.un; omega) ho ha hb m) fun σ H R q => by
  obtain ⟨Γ, T, hl, st, q⟩ := q
  refine tE_bind hl (List.Sublist.refl T) st q fun d Γ1 x H1 hl1 o1 h1 => ?_
  by_cases c : isDk (vw Γ1 d) = true
  · rw [if_pos c] at h1
    obtain ⟨ks, ps, e0⟩ := isDk_some c
    obtain ⟨a0, kvs, rfl, h2, h3, h4⟩ := rv_dK (view_of o1.st o1.has e0)
    refine ⟨a0, rfl, .inl ⟨kvs, h2⟩, ?_⟩
    refine tE_bind hl1 (psh_sub d _ T) o1.st h1 fun d2 Γ2 y H2 hl2 o2 h2 => ?_
    refine tE_bind hl2 ((psh_sub d _ T).trans (psh_sub d2 y _)) o2.st h2 fun d3 Γ3 z H3 hl3 o3 h3 => ?_
    cases e1 : vw Γ3 d with
    | none => simp only [e1] at h3; exact h3.elim
    | some p =>
      cases e2 : vw Γ3 d2 with
      | none => simp only [e1, e2] at h3; exact h3.elim
      | some q2 =>
        cases e3 : vw Γ3 d3 with
        | none => simp only [e1, e2, e3] at h3; exact h3.elim
        | some r =>
          cases e4 : getD3 p q2 r with
          | none => simp only [e1, e2, e3, e4] at h3; exact h3.elim
          | some v =>
            simp only [e1, e2, e3, e4] at h3
            have r1 := view_of o3.st (o1.has.up fun r hr => ((psh_sub d2 y _).trans (psh_sub d3 z _)).subset hr) e1
            have r2 := view_of o3.st (o2.has.up fun r hr => (psh_sub d3 z _).subset hr) e2
            have r3 := view_of o3.st o3.has e3
            obtain ⟨a1, ov, e5, g5, rp⟩ := getD3_rv r1 r2 r3 e4
            cases e5
            exact ⟨ov, g5, h3 hl3 _ _ (.mk_val (o3.st.sub (List.Sublist.append (List.Sublist.refl _) (((psh_sub d _ T).trans (psh_sub d2 y _)).trans (psh_sub d3 z _)))) rp)⟩
  · rw [if_neg c] at h1; exact h1.elim
def intK : List Key → Option (List Int)
  | [] => some []
  | .inl i :: ks => (intK ks).map (i :: ·)
  | .inr _ :: _ => none
theorem intK_some : ∀ {ks : List Key} {ns : List Int}, intK ks = some ns → ks = ns.map Sum.inl
  | [], ns, h => by cases h; rfl
  | .inl i :: ks, ns, h => by
    have h : (intK ks).map (i :: ·) = some ns := h
    cases e : intK ks with
    | none => rw [e] at h; cases h
    | some ms => rw [e] at h; cases h; rw [intK_some e]; rfl
  | .inr _ :: _, _, h => by cases h
def bSortedD : PV → Option Rv
  | .dK ks _ => (intK ks).bind fun ns => if ns.length < 64 then some (.tmp (.lst ((isort ns).map PV.int))) else none
  | _ => none
theorem bSortedD_s {L : Lx} : OpNS L (op1 bSortedD) (fun xs H Q => ∃ (a : Addr) (kvs : List (Key × V)) (ks : List Int), xs = [.ref a] ∧ Rd H a (.dK kvs) ∧ kvs.map (·.1) = ks.map Sum.inl ∧ ks.length < 64 ∧
    ∀ (ys : List Int) (p : Addr), ys.Perm ks → ys.Pairwise (· ≤ ·) → H p = none → Q (.ref p) (upd H p (.lst (ys.map V.int)))) := op1_s fun rs p z x H Q st hx e hQ => by
  cases p <;> try cases e
  rename_i ks ps
  have e : ((intK ks).bind fun ns => if ns.length < 64 then some (Rv.tmp (.lst ((isort ns).map PV.int))) else none) = some z := e
  cases e1 : intK ks with
  | none => rw [e1] at e; cases e
  | some ns =>
    rw [e1, Option.bind_some] at e
    by_cases c : ns.length < 64
    · rw [if_pos c] at e
      cases e
      obtain ⟨a, kvs, h1, h2, h3, h4⟩ := rv_dK hx
      refine ⟨a, kvs, ns, by rw [h1], h2, h3.trans (intK_some e1), c, fun ys p hp hs hn => ?_⟩
      have : ys = isort ns := isort_is hp hs
      rw [this]
      exact hQ _ _ (st.new_list (RpA.of_ints (isort ns)) hn)
    · rw [if_neg c] at e; cases e
end Mv
end S36_

section S37_
set_option Elab.async false
set_option linter.all false
set_option maxRecDepth 100000
namespace Mv
open PySem PySem.Spec PyProof.Rows L2
/-! ### str(o) by the own __str__, o == o2 by the own __eq__ -/
def strN (F : FSem) (p : PV) (Γ : Env) : Rs Opd :=
  match F [.sh p] with
  | .ret (.sh (.str x)) [] => .ok (.val (.str x)) Γ
  | _ => .no
def eStrI (ok : Str → Bool) (F : FSem) (g : ESem) : ESem := fun Γ => (eZ g Γ).bind fun d Γ1 => match d with
  | .val p => if isCls ok p then strN F p Γ1 else .no
  | _ => .no
section
variable {L : Lx} {pos p : Pos} {e e2 : Expr} {ps : List Str} {F : FSem} {k k' : Nat} {f : Addr} {fd : FuncData} {c qual : Str} {st : Stmt}
theorem e_strI {g : ESem} {ok : Str → Bool} (hok : MthOk L.X.K L.X.mg ok "__str__" f) (FG : FnG L.X.prog L.X.w L.X.K L.X.mg L.X.base k f fd ps (spF L.X.K L.X.mg [] ps.length F)) (hr : RoomG (k + 2) L.X.A) (hps : ps.length = 1) (hm : L.X.mg "str" = none) (he : PE L.X e (tE L g)) (hb : Binds L.X.K fd ps [])
    (hg : Gl L.X "str" := by rfl) (hs : starEach [e] L.X.env = (false, eval e L.X.env) :: starEach [] L.X.env := by rfl) (hpl : (backTo pos (starEach [] L.X.env)).any (·.1) = false := by rfl) :
    PE L.X (.Call (.Name "str" p) [e] [] pos) (tE L (eStrI ok F g)) := by
  refine ⟨fun pins s σ H Q I h => ?_⟩
  obtain ⟨Γ, T, hl, st, h⟩ := h
  have h2 := tE_bind (f := eZ g) (R := fun x H1 => ∃ x' p Γ1, [x] = [x'] ∧ Γ1.length = σ.length ∧ OpP L σ Γ1 T (.val p) x' H1 ∧ isCls ok p = true ∧ Pst L σ T (strN F p Γ1) fun d Γ' => ∀ v H', OpP L σ Γ' T d v H' → Q v H') hl (List.Sublist.refl T) st h fun d Γ1 x H1 hl1 o1 h1 => by
    cases d with
    | tmp o => exact h1.elim
    | plc i => exact h1.elim
    | val p =>
      simp only at h1
      split at h1
      · rename_i hh
        exact ⟨x, p, Γ1, rfl, hl1, o1, hh, h1⟩
      · exact h1.elim
  have ha : PA L.X [e] (tCons (tE L (eZ g)) tNil) := pa_cons (e_z he) pa_nil hs
  refine Call_ (ld_blt I hg hm PyProof.Rows.boot_str (PyProof.Rows.callWith_type1 (thn (ha.run pos pins s σ H (fun vs H1 => ∃ x p Γ1, vs = [x] ∧ Γ1.length = σ.length ∧ OpP L σ Γ1 T (.val p) x H1 ∧ isCls ok p = true ∧ Pst L σ T (strN F p Γ1) fun d Γ' => ∀ v H', OpP L σ Γ' T d v H' → Q v H') I ?_) fun us s1 ⟨vs, H1, I1, r1, x, p, Γ1, ev, hl1, o1, hi, q⟩ => ?_) hs hpl))
  · exact h2
  subst ev
  obtain ⟨u, rfl, rx⟩ := vals1 r1
  cases p with
  | ins c ns qs0 =>
    have hi : ok c = true := hi
    obtain ⟨x', ex, rx0⟩ := o1.st.rel (some x, .sh (.ins c ns qs0)) (List.mem_append_right _ List.mem_cons_self)
    cases ex
    obtain ⟨a, C, dx, fs', ob, ex2, h0, h4, h5, h6⟩ := id rx0
    subst ex2
    obtain rfl : u = Value.ref a := rx
    obtain ⟨k1, hp⟩ := hok c C hi h0
    obtain ⟨mA, O, r0⟩ := ins_frz I1 h4
    obtain ⟨od, J, _⟩ := O.look
    let Qm : VK := fun v H2 => ∃ r, F [.sh (.ins c ns qs0)] = .ret r [] ∧ St L ((some v, r) :: (σ.zip Γ1 ++ ((some (.ref a), .sh (.ins c ns qs0)) :: T))) H2
    have hsp : spF L.X.K L.X.mg [] ps.length F [.ref a] H1 Qm (fun _ _ _ => False) := by
      refine spF_vals (qs := [.ins c ns qs0]) o1.st ⟨_, [], rfl, rx0, rfl⟩ hps.symm ?_
      unfold strN at q
      cases eF : F ([PV.ins c ns qs0].map Slot.sh) with
      | no => rw [show F [Slot.sh (.ins c ns qs0)] = _ from eF] at q; exact q.elim
      | ret r outs =>
        rw [show F [Slot.sh (.ins c ns qs0)] = _ from eF] at q
        cases outs with
        | nil => exact fun v H' s1 => ⟨r, eF, s1⟩
        | cons _ _ => cases r <;> first | exact q.elim | (rename_i z; cases z <;> exact q.elim)
      | ex e outs => rw [show F [Slot.sh (.ins c ns qs0)] = _ from eF] at q; exact q.elim
    have hbt := hb s1 [.ref a] I1.kIn (by rw [List.append_nil, hps]; rfl)
    rw [List.append_nil] at hbt
    refine PySem.W.kso_call (by have := hr.r.in1.in1.un; omega) I1.kIn J hp.at_ hp.fn (wpAny_call ?_)
    refine codeAny_mono (FG.go L.X.A.in1.in1 L.X.stack s1 H1 ⟨[.ref a], []⟩ [.ref a] [.ref a] Qm _ ⟨hr.r.in1.in1, hr.g⟩ I1.env0.in1.in1 hbt (.cons rfl .nil) hsp) fun r s' hq => ?_
    cases r with
    | error er =>
      obtain ⟨_, _, _, _, _, _, _, _, _, _, _, _, h8⟩ := hq
      exact h8.elim
    | ok fl =>
      cases fl with
      | ret u =>
        obtain ⟨v, H', I3, rv, r, eF, s3⟩ := I1.after hq
        unfold strN at q
        rw [eF] at q
        cases r with
        | un => exact q.elim
        | ow o => exact q.elim
        | sh z =>
          cases z <;> try exact q.elim
          rename_i y
          obtain ⟨v', ev, rv'⟩ := s3.rel (some v, .sh (.str y)) List.mem_cons_self
          cases ev
          obtain rfl : v = V.str y := rv'
          obtain ⟨t, rfl⟩ := rv
          exact ⟨.str y, H', I3, ⟨t, rfl⟩, q hl1 _ _ ⟨((s3.sub ((List.Sublist.append (List.Sublist.refl _) (List.sublist_cons_self _ _)).cons_cons _))).perm List.perm_middle.symm, fun i z => nomatch z⟩⟩
      | next => exact False.elim hq
      | brk => exact False.elim hq
      | cont => exact False.elim hq
  | _ => exact absurd hi (by simp [isCls])
def eqN (c : Str) (F : FSem) (p q : PV) : Option Bool := if isCls (fun y => y == c) p && isCls (fun y => y == c) q then
    (match F [.sh p, .sh q] with
    | .ret (.sh (.bl b)) [] => some b
    | _ => none) else none
def eEqI (c : Str) (F : FSem) (f g : ESem) : ESem := fun Γ => (eZ f Γ).bind fun d Γ1 => (eZ g Γ1).bind fun d2 Γ2 => match d, d2 with
  | .val p, .val q => (match eqN c F p q with
    | some b => .ok (.val (.bl b)) Γ2
    | none => .no)
  | _, _ => .no
def rEqN (L : Lx) (c : Str) (F : FSem) : R2 := fun x y H Q => ∃ rs p q b, isCls (fun y => y == c) p = true ∧ isCls (fun y => y == c) q = true ∧ F [.sh p, .sh q] = .ret (.sh (.bl b)) [] ∧ Rp L.X.K L.X.mg H p x ∧ Rp L.X.K L.X.mg H q y ∧ St L rs H ∧
  ∀ v H', St L ((some v, .sh (.bl b)) :: rs) H' → Q v H'
theorem op_eqN (O : OkM L.X.prog L.X.w L.X.K L.X.mg L.X.base k c "__eq__" qual st ps F) (hr : RoomG k' L.X.A) (hkk : k ≤ k') (hps : ps.length = 2)
    (B : ∀ (kV doc pm : Value) (an : Option Addr) (cdv ct : Value) (us : List Value), us.length = ps.length → bindArgs (PySem.W.fnOf "__eq__" qual (defArgs st) (defBody st) (defScope st) .none kV doc pm an cdv ct) ⟨us, []⟩ = pure (ps.zip us)) : OpR L.X (compareOp .Eq) (rEqN L c F) := by
  intro pins s σ H x y v u Q I rx ry hq
  obtain ⟨rs, p, q, b, c1, c2, eF, hx, hy, sT, hQ⟩ := hq
  obtain ⟨C, f, fd, c0, i0, FG⟩ := O
  cases p with
  | ins n1 ns1 qs1 =>
    cases q with
    | ins n2 ns2 qs2 =>
      obtain rfl : n1 = c := beq_iff_eq.mp (show (n1 == c) = true from c1)
      obtain rfl : n2 = n1 := beq_iff_eq.mp (show (n2 == n1) = true from c2)
      obtain ⟨a, C1, dx, fs', ob, ex2, h0, h4, h5, h6⟩ := id hx
      obtain ⟨a2, C2, dx2, fs2, ob2, ex3, g0, g4, g5, g6⟩ := id hy
      subst ex2 ex3
      obtain rfl : v = Value.ref a := rx
      obtain rfl : u = Value.ref a2 := ry
      rw [c0.m] at h0 g0
      cases h0; cases g0
      obtain ⟨mA, O1, r0⟩ := ins_frz I h4
      obtain ⟨mB, O2, r2⟩ := ins_frz I g4
      obtain ⟨od, J, _⟩ := O1.look
      obtain ⟨od2, J2, _⟩ := O2.look
      obtain ⟨m, hF⟩ := I.fr
      show wpAny (model L.X.prog L.X.w) L.X.A (richCompare .Eq (.ref a) (.ref a2)) (EP L.X pins σ Q) L.X.xe s
      let Qm : VK := fun v H2 => ∃ r, F [.sh (.ins n2 ns1 qs1), .sh (.ins n2 ns2 qs2)] = .ret r [] ∧ St L ((some v, r) :: rs) H2
      have hsp : spF L.X.K L.X.mg [] ps.length F [.ref a, .ref a2] H Qm (fun _ _ _ => False) := by
        refine spF_vals (qs := [.ins n2 ns1 qs1, .ins n2 ns2 qs2]) sT ⟨_, _, rfl, hx, _, [], rfl, hy, rfl⟩ hps.symm ?_
        rw [show F ([PV.ins n2 ns1 qs1, PV.ins n2 ns2 qs2].map Slot.sh) = _ from eF]
        exact fun v H' s1 => ⟨_, eF, s1⟩
      have hbt := i0.F.binds B s [.ref a, .ref a2] I.kIn (by rw [List.append_nil, hps]; rfl)
      rw [List.append_nil] at hbt
      refine PySem.W.cmp_K (op := .Eq) (tb := .ref C) hr.r.units0 hF I.ok.mod.kin J J2.type (by simp [PySem.W.notFirst]) i0.m.at_ i0.m.fn (wpAny_call ?_)
      refine codeAny_mono (FG.go L.X.A L.X.stack s H ⟨[.ref a, .ref a2], []⟩ [.ref a, .ref a2] [.ref a, .ref a2] Qm _ (hr.mono hkk) I.env0 hbt (.cons rfl (.cons rfl .nil)) hsp) fun r s' hq => ?_
      cases r with
      | error er =>
        obtain ⟨_, _, _, _, _, _, _, _, _, _, _, _, h8⟩ := hq
        exact h8.elim
      | ok fl =>
        cases fl with
        | ret u =>
          obtain ⟨v, H', I3, rv, r, eF', s3⟩ := I.after hq
          rw [eF] at eF'
          cases eF'
          obtain ⟨v', ev, rv'⟩ := s3.rel (some v, .sh (.bl b)) List.mem_cons_self
          cases ev
          obtain rfl : v = V.bl b := rv'
          obtain rfl : u = Value.bool b := rv
          exact ⟨.bl b, H', I3, rfl, hQ _ _ s3⟩
        | next => exact False.elim hq
        | brk => exact False.elim hq
        | cont => exact False.elim hq
    | _ => exact absurd c2 (by simp [isCls])
  | _ => exact absurd c1 (by simp [isCls])
theorem eqI_go {f g : ESem} {σ : L2.St} {H : Hp} {Q : VK} (h : tE L (eEqI c F f g) σ H Q) : tOp (rEqN L c F) (tE L (eZ f)) (tE L (eZ g)) σ H Q := by
  obtain ⟨Γ, T, hl, st, q⟩ := h
  refine tE_bind hl (List.Sublist.refl T) st q fun d Γ1 x H1 hl1 o1 h1 => ?_
  refine tE_bind hl1 (psh_sub d x T) o1.st h1 fun d2 Γ2 y H2 hl2 o2 h2 => ?_
  cases d with
  | tmp o => exact h2.elim
  | plc i => exact h2.elim
  | val p =>
    cases d2 with
    | tmp o => exact h2.elim
    | plc i => exact h2.elim
    | val q =>
      have m1 : (some x, Slot.sh p) ∈ psh (.val q) y (psh (.val p) x T) := List.mem_cons_of_mem _ List.mem_cons_self
      have m2 : (some y, Slot.sh q) ∈ psh (.val q) y (psh (.val p) x T) := List.mem_cons_self
      obtain ⟨x', ex, hx⟩ := o2.st.rel _ (List.mem_append_right _ m1)
      obtain ⟨y', ey, hy⟩ := o2.st.rel _ (List.mem_append_right _ m2)
      cases ex; cases ey
      simp only at h2
      unfold eqN at h2
      split at h2
      · rename_i b e
        split at e
        · rename_i hc
          rw [Bool.and_eq_true] at hc
          split at e
          · rename_i b' eF
            cases e
            exact ⟨_, p, q, _, hc.1, hc.2, eF, hx, hy, o2.st, fun v H' s3 => h2 hl2 v H' ⟨(s3.perm List.perm_middle.symm).sub (List.Sublist.append (List.Sublist.refl _) ((List.Sublist.trans (psh_sub _ _ _) (psh_sub _ _ _)).cons_cons _)), fun i z => nomatch z⟩⟩
          · cases e
        · cases e
      · exact h2.elim
theorem k_eqI {f g : ESem} (O : OkM L.X.prog L.X.w L.X.K L.X.mg L.X.base k c "__eq__" qual st ps F) (B : ∀ (kV doc pm : Value) (an : Option Addr) (cdv ct : Value) (us : List Value), us.length = ps.length → bindArgs (PySem.W.fnOf "__eq__" qual (defArgs st) (defBody st) (defScope st) .none kV doc pm an cdv ct) ⟨us, []⟩ = pure (ps.zip us)) (hr : RoomG k' L.X.A) (hkk : k ≤ k')
    (ha : PE L.X e (tE L f)) (hb : PE L.X e2 (tE L g)) (hps : ps.length = 2 := by rfl) (hm : behindInMarks .Eq e2 = false := by rfl) : PE L.X (.Compare e [.Eq] [e2] pos) (tE L (eEqI c F f g)) :=
  peI (pe_cmpR (op_eqN O hr hkk hps B) (e_z ha) (e_z hb) hm) fun _ _ _ h => eqI_go h
theorem sC {g : ESem} (O : OkM L.X.prog L.X.w L.X.K L.X.mg L.X.base k c "__str__" qual st ps F) (B : ∀ (kV doc pm : Value) (an : Option Addr) (cdv ct : Value) (us : List Value), us.length = ps.length → bindArgs (PySem.W.fnOf "__str__" qual (defArgs st) (defBody st) (defScope st) .none kV doc pm an cdv ct) ⟨us, []⟩ = pure (ps.zip us)) (hr : RoomG k' L.X.A) (hkk : k + 2 ≤ k') (hm : L.X.mg "str" = none)
    (he : PE L.X e (tE L g)) (hps : ps.length = 1 := by rfl) (hg : Gl L.X "str" := by rfl) (hs : starEach [e] L.X.env = (false, eval e L.X.env) :: starEach [] L.X.env := by rfl) (hpl : (backTo pos (starEach [] L.X.env)).any (·.1) = false := by rfl) :
    PE L.X (.Call (.Name "str" p) [e] [] pos) (tE L (eStrI (fun y => y == c) F g)) := by
  obtain ⟨C, f, fd, c0, i0, FG⟩ := O
  refine e_strI (f := f) (fun c' C' h m => ?_) FG (hr.mono hkk) hps hm he (i0.F.binds B) hg hs hpl
  have e : c' = c := beq_iff_eq.mp h
  subst e
  rw [c0.m] at m
  cases m
  exact ⟨c0.i.cl, i0.m⟩
end
end Mv
namespace Mv
open PySem PySem.Spec PyProof.Rows L2
/-! ### str(i); a.join(texts) -/
def bStrN : PV → Option Rv
  | .int i => if i.natAbs.log2 < 1920 then some (.val (.str (toString i))) else none
  | _ => none
theorem bStrN_s {L : Lx} : OpNS L (op1 bStrN) (fun xs H Q => ∃ i, xs = [.int i] ∧ i.natAbs.log2 < 1920 ∧ Q (.str (toString i)) H) := op1_s fun rs p z x H Q st hx e hQ => by
  cases p <;> try cases e
  rename_i i
  have e : (if i.natAbs.log2 < 1920 then some (Rv.val (.str (toString i))) else none) = some z := e
  split at e
  · cases e
    rename_i h
    exact ⟨i, by rw [rv_int hx], h, hQ _ H (st.push_val rfl)⟩
  · cases e
def strsL : List PV → Option (List Str)
  | [] => some []
  | .str x :: r => (strsL r).map (x :: ·)
  | _ => none
theorem strsL_map : ∀ ys : List Str, strsL (ys.map .str) = some ys
  | [] => rfl
  | y :: ys => by show (strsL (ys.map .str)).map _ = _; rw [strsL_map ys]; rfl
theorem strsL_some : ∀ {ps : List PV} {ys : List Str}, strsL ps = some ys → ps = ys.map .str
  | [], ys, h => by cases h; rfl
  | p :: r, ys, h => by
    cases p <;> try cases h
    rename_i x
    obtain ⟨zs, h1, h2⟩ := Option.map_eq_some_iff.mp (show (strsL r).map (x :: ·) = some ys from h)
    rw [strsL_some h1, ← h2]; rfl
def seqQ : PV → Option (List PV)
  | .lst ps => some ps
  | .tup ps => some ps
  | _ => none
def bJoin (a : Str) : PV → Option Rv := fun p => (seqQ p).bind fun ps => (strsL ps).bind fun ys => if (ys.map (·.length)).sum + ys.length * a.length ≤ 16777216 then some (.val (.str (Txt.join a ys))) else none
theorem strsV {K : PySem.W.Frag} {mg : Str → Option Value} {H : Hp} : ∀ {ys : List Str} {xs : List V}, RpA K mg H (ys.map .str) xs → xs = ys.map V.str
  | [], xs, h => h
  | y :: ys, xs, h => by
    obtain ⟨v, r, rfl, h1, h2⟩ := h
    rw [strsV h2, show v = V.str y from h1]; rfl
def rJoin (K : PySem.W.Frag) (a0 : Str) : V → Hp → VK → Prop := fun x H Q => ∃ a p, ∃ ys : List Str, V.str a0 = .str a ∧ [x] = [.ref p] ∧ (SqL K H p (ys.map V.str) ∨ SqT K H p (ys.map V.str)) ∧ (ys.map (·.length)).sum + ys.length * a.length ≤ 16777216 ∧ Q (.str (Txt.join a ys)) H
theorem bJoin_s {L : Lx} (a : Str) : Op1S L (bJoin a) (rJoin L.X.K a) := fun rs p z x H Q st hx e hQ => by
  unfold bJoin at e
  obtain ⟨ps, e1, e2⟩ := Option.bind_eq_some_iff.mp e
  obtain ⟨ys, e3, e4⟩ := Option.bind_eq_some_iff.mp e2
  split at e4
  · rename_i hz
    cases e4
    have hp := strsL_some e3
    subst hp
    cases p <;> try cases e1
    · obtain ⟨b, xs, rfl, h2, h3⟩ := rv_tup hx
      rw [strsV h3] at h2
      exact ⟨a, b, ys, rfl, rfl, .inr h2, hz, hQ _ H (st.push_val rfl)⟩
    · obtain ⟨b, xs, rfl, h2, h3⟩ := rv_lst hx
      rw [strsV h3] at h2
      exact ⟨a, b, ys, rfl, rfl, .inl h2, hz, hQ _ H (st.push_val rfl)⟩
  · cases e4
theorem e_join {L : Lx} {a : Str} {j} {apos cp pos : Pos} {e : Expr} {g : ESem} (he : PE L.X e (tE L g)) (hs : starEach [e] L.X.env = [(false, eval e L.X.env)] := by rfl) (hbase : attributeBase (.Constant (.str a) j cp) "join" L.X.env (eval (.Constant (.str a) j cp) L.X.env) = eval (.Constant (.str a) j cp) L.X.env := by rfl) (hline : (apos.endLine == pos.line) = true := by rfl) :
    PE L.X (.Call (.Attribute (.Constant (.str a) j cp) "join" apos) [e] [] pos) (tE L (eUn (bJoin a) g)) :=
  peI (pe_join pe_str he hs hbase hline) fun σ H Q h => by
    have h := un_go (bJoin_s a) h
    show (∃ b, V.str a = .str b) ∧ _
    exact ⟨⟨a, rfl⟩, h⟩
end Mv
end S37_

section S38_
set_option Elab.async false
set_option linter.all false
set_option maxRecDepth 100000
namespace Mv
open PySem PySem.Spec PyProof.Rows L2

/-! ### what a meaning must come to: weakest conditions -/
@[irreducible] def wR {α : Type} (r : Rs α) (Q : α → Env → Prop) : Prop := match r with | .ok a Γ => Q a Γ | _ => False
@[irreducible] def wO {α : Type} (o : Option α) (Q : α → Prop) : Prop := match o with | some a => Q a | none => False
@[irreducible] def wL (r : Fl) (Q : Fl → Prop) : Prop := match r with | .no => False | .ex _ _ => False | r => Q r
@[irreducible] def wF (r : FRes) (Q : Slot → List OV → Prop) : Prop := match r with | .ret s o => Q s o | _ => False
section
variable {α β : Type} {Γ : Env} {i j : Nat} {d d1 d2 : Opd} {p q : PV}
@[simp] theorem wR_ok (a : α) (Q : α → Env → Prop) : wR (.ok a Γ) Q = Q a Γ := by with_unfolding_all rfl
@[simp] theorem wR_no (Q : α → Env → Prop) : wR (.no) Q = False := by with_unfolding_all rfl
@[simp] theorem wR_bind (r : Rs α) (k : α → Env → Rs β) (Q : β → Env → Prop) : wR (r.bind k) Q = wR r fun a Γ => wR (k a Γ) Q := by cases r <;> with_unfolding_all rfl
@[simp] theorem wO_some (a : α) (Q : α → Prop) : wO (some a) Q = Q a := by with_unfolding_all rfl
@[simp] theorem wO_none (Q : α → Prop) : wO none Q = False := by with_unfolding_all rfl
@[simp high] theorem wO_guard (c : Prop) [Decidable c] (a : α) (Q : α → Prop) : wO (if c then some a else none) Q = (c ∧ Q a) := by
  by_cases h : c <;> simp [h]
@[simp] theorem wO_ite (c : Prop) [Decidable c] (o o' : Option α) (Q : α → Prop) : wO (if c then o else o') Q = ((c → wO o Q) ∧ (¬ c → wO o' Q)) := by
  by_cases h : c <;> simp [h]
@[simp] theorem wR_ite (c : Prop) [Decidable c] (o o' : Rs α) (Q : α → Env → Prop) : wR (if c then o else o') Q = ((c → wR o Q) ∧ (¬ c → wR o' Q)) := by
  by_cases h : c <;> simp [h]
@[simp] theorem wL_ite (c : Prop) [Decidable c] (o o' : Fl) (Q : Fl → Prop) : wL (if c then o else o') Q = ((c → wL o Q) ∧ (¬ c → wL o' Q)) := by
  by_cases h : c <;> simp [h]
@[simp] theorem wO_map (o : Option α) (f : α → β) (Q : β → Prop) : wO (o.map f) Q = wO o fun a => Q (f a) := by cases o <;> with_unfolding_all rfl
@[simp] theorem wO_bind (o : Option α) (f : α → Option β) (Q : β → Prop) : wO (o.bind f) Q = wO o fun a => wO (f a) Q := by cases o <;> with_unfolding_all rfl
@[simp] theorem wL_nx (Q : Fl → Prop) : wL (.nx Γ) Q = Q (.nx Γ) := by with_unfolding_all rfl
@[simp] theorem wL_rt (Q : Fl → Prop) : wL (.rt d Γ) Q = Q (.rt d Γ) := by with_unfolding_all rfl
@[simp] theorem wL_bk (Q : Fl → Prop) : wL (.bk Γ) Q = Q (.bk Γ) := by with_unfolding_all rfl
@[simp] theorem wL_ct (Q : Fl → Prop) : wL (.ct Γ) Q = Q (.ct Γ) := by with_unfolding_all rfl
@[simp] theorem wL_fl (r : Rs α) (k : α → Env → Fl) (Q : Fl → Prop) : wL (r.fl k) Q = wR r fun a Γ => wL (k a Γ) Q := by cases r <;> with_unfolding_all rfl
/-- a statement's end, another one behind it -/
def kS (k : SSem) (Q : Fl → Prop) : Fl → Prop
  | .nx Γ => wL (k Γ) Q
  | r => Q r
@[simp] theorem kS_nx (k : SSem) (Q : Fl → Prop) : kS k Q (.nx Γ) = wL (k Γ) Q := by with_unfolding_all rfl
@[simp] theorem kS_rt (k : SSem) (Q : Fl → Prop) : kS k Q (.rt d Γ) = Q (.rt d Γ) := by with_unfolding_all rfl
@[simp] theorem kS_bk (k : SSem) (Q : Fl → Prop) : kS k Q (.bk Γ) = Q (.bk Γ) := by with_unfolding_all rfl
@[simp] theorem kS_ct (k : SSem) (Q : Fl → Prop) : kS k Q (.ct Γ) = Q (.ct Γ) := by with_unfolding_all rfl
@[simp] theorem wL_seq (r : Fl) (k : SSem) (Q : Fl → Prop) : wL (r.seq k) Q = wL r (kS k Q) := by cases r <;> with_unfolding_all rfl
@[simp] theorem brkS_ap : brkS Γ = .bk Γ := by with_unfolding_all rfl
@[simp] theorem cntS_ap : cntS Γ = .ct Γ := by with_unfolding_all rfl

/-! operands -/
def svO (i : Nat) : Slot → Option Opd
  | .sh p => some (.val p)
  | .ow _ => some (.plc i)
  | .un => none
@[simp] theorem svO_sh : svO i (.sh p) = some (.val p) := by with_unfolding_all rfl
@[simp] theorem svO_ow (o : OV) : svO i (.ow o) = some (.plc i) := by with_unfolding_all rfl
@[simp] theorem wR_var (Q : Opd → Env → Prop) : wR (eVar i Γ) Q = wO Γ[i]? fun s => wO (svO i s) fun d => Q d Γ := by
  unfold eVar
  cases Γ[i]? with
  | none => with_unfolding_all rfl
  | some s => cases s <;> with_unfolding_all rfl
@[simp] theorem pv_sh : Slot.pv? (.sh p) = some p := by with_unfolding_all rfl
@[simp] theorem pv_ow (o : OV) : Slot.pv? (.ow o) = some o.pv := by with_unfolding_all rfl
@[simp] theorem pv_lst (xs : List PV) : OV.pv (.lst xs) = .lst xs := by with_unfolding_all rfl
@[simp] theorem pv_dK (ks vs) : OV.pv (.dK ks vs) = .dK ks vs := by with_unfolding_all rfl
@[simp] theorem pv_dT (ks vs) : OV.pv (.dT ks vs) = .dT ks vs := by with_unfolding_all rfl
@[simp] theorem pv_ins (c ns vs) : OV.pv (.ins c ns vs) = .ins c ns vs := by with_unfolding_all rfl
@[simp] theorem vw_val : vw Γ (.val p) = some p := by with_unfolding_all rfl
@[simp] theorem vw_tmp (o : OV) : vw Γ (.tmp o) = some o.pv := by with_unfolding_all rfl
@[simp] theorem vw_plc : vw Γ (.plc i) = (Γ[i]?).bind Slot.pv? := by with_unfolding_all rfl
@[simp] theorem opd_val : Rv.opd (.val p) = .val p := by with_unfolding_all rfl
@[simp] theorem opd_tmp (o : OV) : Rv.opd (.tmp o) = .tmp o := by with_unfolding_all rfl
@[simp] theorem wR_lift1 (op : PV → Option Rv) (Q : Opd → Env → Prop) : wR (lift1 op d Γ) Q = wO (vw Γ d) fun p => wO (op p) fun r => Q r.opd Γ := by
  unfold lift1
  cases vw Γ d with
  | none => with_unfolding_all rfl
  | some p => show wR (match op p with | some r => .ok r.opd Γ | none => .no) Q = _; simp only [wO_some]; cases op p <;> with_unfolding_all rfl
@[simp] theorem wR_lift2 (op : PV → PV → Option Rv) (Q : Opd → Env → Prop) : wR (lift2 op d1 d2 Γ) Q = wO (vw Γ d1) fun p => wO (vw Γ d2) fun q => wO (op p q) fun r => Q r.opd Γ := by
  unfold lift2
  cases vw Γ d1 <;> cases vw Γ d2 <;> try with_unfolding_all rfl
  rename_i p q
  simp only [wO_some]
  cases op p q <;> with_unfolding_all rfl
@[simp] theorem wO_vws_nil (Q : List PV → Prop) : wO (vws Γ []) Q = Q [] := by with_unfolding_all rfl
@[simp] theorem wO_vws (ds : List Opd) (Q : List PV → Prop) : wO (vws Γ (d :: ds)) Q = wO (vw Γ d) fun p => wO (vws Γ ds) fun ps => Q (p :: ps) := by
  show wO (match vw Γ d, vws Γ ds with | some p, some l => some (p :: l) | _, _ => none) Q = _
  cases vw Γ d <;> cases vws Γ ds <;> with_unfolding_all rfl
@[simp] theorem wR_liftN (op : List PV → Option Rv) (ds : List Opd) (Q : Opd → Env → Prop) : wR (liftN op ds Γ) Q = wO (vws Γ ds) fun ps => wO (op ps) fun r => Q r.opd Γ := by
  unfold liftN
  cases vws Γ ds with
  | none => with_unfolding_all rfl
  | some ps => simp only [Option.bind_some, wO_some]; cases op ps <;> with_unfolding_all rfl
@[simp] theorem wO_vals_nil (Q : List PV → Prop) : wO (valsO []) Q = Q [] := by with_unfolding_all rfl
@[simp] theorem wO_vals (ds : List Opd) (Q : List PV → Prop) : wO (valsO (.val p :: ds)) Q = wO (valsO ds) fun ps => Q (p :: ps) := by
  show wO ((valsO ds).map (p :: ·)) Q = _
  cases valsO ds <;> with_unfolding_all rfl
@[simp] theorem wR_lst (a : ASem) (Q : Opd → Env → Prop) : wR (eLst a Γ) Q = wR (a Γ) fun ds Γ' => wO (valsO ds) fun ps => ps.length ≤ sizeLine ∧ Q (.tmp (.lst ps)) Γ' := by
  unfold eLst
  rw [wR_bind]
  congr 1; funext ds Γ'
  cases valsO ds with
  | none => with_unfolding_all rfl
  | some ps => by_cases h : ps.length ≤ sizeLine <;> simp [h]
@[simp] theorem wR_tup (a : ASem) (Q : Opd → Env → Prop) : wR (eTup a Γ) Q = wR (a Γ) fun ds Γ' => wO (valsO ds) fun ps => ps.length ≤ sizeLine ∧ Q (.val (.tup ps)) Γ' := by
  unfold eTup
  rw [wR_bind]
  congr 1; funext ds Γ'
  cases valsO ds with
  | none => with_unfolding_all rfl
  | some ps => by_cases h : ps.length ≤ sizeLine <;> simp [h]
/-- a slot's thing, locked -/
def kpV : Slot → Option PV
  | .sh p => some p
  | .ow o => some o.pv
  | .un => none
@[simp] theorem kpV_sh : kpV (.sh p) = some p := by with_unfolding_all rfl
@[simp] theorem kpV_ow (o : OV) : kpV (.ow o) = some o.pv := by with_unfolding_all rfl
@[simp] theorem fz_val : fz (.val p) Γ = .ok (.val p) Γ := by with_unfolding_all rfl
@[simp] theorem fz_tmp (o : OV) : fz (.tmp o) Γ = .ok (.val o.pv) Γ := by with_unfolding_all rfl
theorem set_self' {s : Slot} (h : Γ[i]? = some s) : Γ.set i s = Γ := by
  apply List.ext_getElem?
  intro j
  rw [List.getElem?_set]
  by_cases e : i = j
  · subst e
    rw [if_pos rfl]
    obtain ⟨hl, h2⟩ := List.getElem?_eq_some_iff.mp h
    rw [if_pos hl, h]
  · rw [if_neg e]
@[simp] theorem wR_kp (Q : Opd → Env → Prop) : wR (kp (.plc i) Γ) Q = wO Γ[i]? fun s => wO (kpV s) fun p => Q (.val p) (Γ.set i (.sh p)) := by
  show wR (match Γ[i]? with | some (.ow o) => .ok (.val o.pv) (Γ.set i (.sh o.pv)) | some (.sh p) => .ok (.val p) Γ | _ => .no) Q = _
  cases e : Γ[i]? with
  | none => with_unfolding_all rfl
  | some s =>
    cases s with
    | un => with_unfolding_all rfl
    | ow o => with_unfolding_all rfl
    | sh p => simp only [wO_some, kpV_sh, wR_ok]; rw [set_self' e]
@[simp] theorem wR_fz (Q : Opd → Env → Prop) : wR (fz (.plc i) Γ) Q = wO Γ[i]? fun s => wO (kpV s) fun p => Q (.val p) (Γ.set i (.sh p)) := wR_kp Q
@[simp] theorem kp_val : kp (.val p) Γ = .ok (.val p) Γ := by with_unfolding_all rfl
@[simp] theorem kp_tmp (o : OV) : kp (.tmp o) Γ = .ok (.tmp o) Γ := by with_unfolding_all rfl
@[simp] theorem tmpZ_val : tmpZ (.val p) Γ = .ok (.val p) Γ := by with_unfolding_all rfl
@[simp] theorem tmpZ_tmp (o : OV) : tmpZ (.tmp o) Γ = .ok (.val o.pv) Γ := by with_unfolding_all rfl
@[simp] theorem tmpZ_plc : tmpZ (.plc i) Γ = .ok (.plc i) Γ := by with_unfolding_all rfl
@[simp] theorem wL_bind_val (Q : Fl → Prop) : wL (bindS i (.val p) Γ) Q = Q (.nx (Γ.set i (.sh p))) := by with_unfolding_all rfl
@[simp] theorem wL_bind_tmp (o : OV) (Q : Fl → Prop) : wL (bindS i (.tmp o) Γ) Q = Q (.nx (Γ.set i (.ow o))) := by with_unfolding_all rfl
/-- a slot handed on -/
def mvO (i j : Nat) (Γ : Env) : Slot → Option Env
  | .ow o => some ((Γ.set j .un).set i (.ow o))
  | .sh p => some (Γ.set i (.sh p))
  | .un => none
@[simp] theorem mvO_ow (o : OV) : mvO i j Γ (.ow o) = some ((Γ.set j .un).set i (.ow o)) := by with_unfolding_all rfl
@[simp] theorem mvO_sh : mvO i j Γ (.sh p) = some (Γ.set i (.sh p)) := by with_unfolding_all rfl
@[simp] theorem wL_bind_plc (Q : Fl → Prop) : wL (bindS i (.plc j) Γ) Q = wO Γ[j]? fun s => wO (mvO i j Γ s) fun Γ' => Q (.nx Γ') := by
  show wL (match Γ[j]? with | some (.ow o) => .nx ((Γ.set j .un).set i (.ow o)) | some (.sh p) => .nx (Γ.set i (.sh p)) | _ => .no) Q = _
  cases Γ[j]? with
  | none => with_unfolding_all rfl
  | some s => cases s <;> with_unfolding_all rfl
def pbl : PV → Option Bool
  | .bl b => some b
  | _ => none
@[simp] theorem pbl_bl (b : Bool) : pbl (.bl b) = some b := by with_unfolding_all rfl
@[simp] theorem wR_tV (f : ESem) (Q : Bool → Env → Prop) : wR (tV f Γ) Q = wR (f Γ) fun d Γ' => wO (vw Γ' d) fun p => wO (pbl p) fun b => Q b Γ' := by
  unfold tV
  rw [wR_bind]
  congr 1; funext d Γ'
  cases vw Γ' d with
  | none => with_unfolding_all rfl
  | some p => cases p <;> with_unfolding_all rfl
@[simp] theorem wR_eAnd (f g : ESem) (Q : Opd → Env → Prop) : wR (eAndS f g Γ) Q = wR (f Γ) fun d Γ' => wO (vw Γ' d) fun p => wO (pbl p) fun b => wR (if b then g Γ' else .ok (.val (.bl false)) Γ') Q := by
  unfold eAndS
  rw [wR_bind]
  congr 1; funext d Γ'
  cases vw Γ' d with
  | none => with_unfolding_all rfl
  | some p => cases p <;> with_unfolding_all rfl
@[simp] theorem wR_eOr (f g : ESem) (Q : Opd → Env → Prop) : wR (eOrS f g Γ) Q = wR (f Γ) fun d Γ' => wO (vw Γ' d) fun p => wO (pbl p) fun b => wR (if b then .ok (.val (.bl true)) Γ' else g Γ') Q := by
  unfold eOrS
  rw [wR_bind]
  congr 1; funext d Γ'
  cases vw Γ' d with
  | none => with_unfolding_all rfl
  | some p => cases p <;> with_unfolding_all rfl
@[simp] theorem wR_eNot (f : ESem) (Q : Opd → Env → Prop) : wR (eNotS f Γ) Q = wR (f Γ) fun d Γ' => wO (vw Γ' d) fun p => wO (pbl p) fun b => Q (.val (.bl (!b))) Γ' := by
  unfold eNotS
  rw [wR_bind]
  congr 1; funext d Γ'
  cases vw Γ' d with
  | none => with_unfolding_all rfl
  | some p => cases p <;> with_unfolding_all rfl
def rbl : Rv → Option Bool
  | .val (.bl b) => some b
  | _ => none
@[simp] theorem rbl_bl (b : Bool) : rbl (.val (.bl b)) = some b := by with_unfolding_all rfl
@[simp] theorem wR_chn (op op' : PV → PV → Option Rv) (f g k : ESem) (Q : Opd → Env → Prop) : wR (eChn op op' f g k Γ) Q = wR (f Γ) fun d1 Γ1 => wR (g Γ1) fun d2 Γ2 => wO (vw Γ2 d1) fun p => wO (vw Γ2 d2) fun q => wO (op p q) fun r => wO (rbl r) fun b =>
    wR (if b then (k Γ2).bind fun d3 Γ3 => lift2 op' d2 d3 Γ3 else .ok (.val (.bl false)) Γ2) Q := by
  unfold eChn
  rw [wR_bind]
  congr 1; funext d1 Γ1
  rw [wR_bind]
  congr 1; funext d2 Γ2
  cases vw Γ2 d1 with
  | none => with_unfolding_all rfl
  | some p =>
    cases vw Γ2 d2 with
    | none => with_unfolding_all rfl
    | some q =>
      simp only [wO_some]
      cases op p q with
      | none => with_unfolding_all rfl
      | some r =>
        cases r with
        | tmp o => with_unfolding_all rfl
        | val x =>
          cases x <;> try with_unfolding_all rfl
          rename_i b
          cases b <;> with_unfolding_all rfl

/-! subscripts, slices -/
def pint : PV → Option Int
  | .int i => some i
  | _ => none
@[simp] theorem pint_int (i : Int) : pint (.int i) = some i := by with_unfolding_all rfl
@[simp] theorem wR_oSome (f : ESem) (Q : Option Int → Env → Prop) : wR (oSome f Γ) Q = wR (f Γ) fun d Γ' => wO (vw Γ' d) fun p => wO (pint p) fun i => Q (some i) Γ' := by
  unfold oSome
  rw [wR_bind]
  congr 1; funext d Γ'
  cases vw Γ' d with
  | none => with_unfolding_all rfl
  | some p => cases p <;> with_unfolding_all rfl
@[simp] theorem wR_sl (f : ESem) (l h : OSem) (Q : Opd → Env → Prop) : wR (eSl f l h Γ) Q = wR (f Γ) fun d Γ1 => wR (l Γ1) fun lo Γ2 => wR (h Γ2) fun hi Γ3 => wO (vw Γ3 d) fun p => wO (slS p lo hi) fun r => Q r.opd Γ3 := by
  unfold eSl
  simp only [wR_bind]
  congr 1; funext d Γ1
  congr 1; funext lo Γ2
  congr 1; funext hi Γ3
  cases vw Γ3 d with
  | none => with_unfolding_all rfl
  | some p => simp only [Option.bind_some, wO_some]; cases slS p lo hi <;> with_unfolding_all rfl
@[simp] theorem wR_sl3 (f : ESem) (l h k : OSem) (Q : Opd → Env → Prop) : wR (eSl3 f l h k Γ) Q = wR (f Γ) fun d Γ1 => wR (l Γ1) fun lo Γ2 => wR (h Γ2) fun hi Γ3 => wR (k Γ3) fun st Γ4 => wO (vw Γ4 d) fun p => wO (sl3S p lo hi st) fun r => Q r.opd Γ4 := by
  unfold eSl3
  simp only [wR_bind]
  congr 1; funext d Γ1
  unfold sl3k0
  simp only [wR_bind]
  congr 1; funext lo Γ2
  unfold sl3k1
  simp only [wR_bind]
  congr 1; funext hi Γ3
  unfold sl3k2
  simp only [wR_bind]
  congr 1; funext st Γ4
  unfold sl3k3
  cases vw Γ4 d with
  | none => with_unfolding_all rfl
  | some p => simp only [Option.bind_some, wO_some]; cases sl3S p lo hi st <;> with_unfolding_all rfl
/-! calls -/
@[simp] theorem wF_ret (s : Slot) (o : List OV) (Q : Slot → List OV → Prop) : wF (.ret s o) Q = Q s o := by with_unfolding_all rfl
theorem wF_mono {r : FRes} {P Q : Slot → List OV → Prop} (h : wF r P) (k : ∀ s o, P s o → Q s o) : wF r Q := by
  unfold wF at *
  cases r with
  | ret s o => exact k s o h
  | _ => exact h
theorem wF_eq {r : FRes} {s : Slot} {o : List OV} (h : wF r fun s' o' => s' = s ∧ o' = o) : r = .ret s o := by
  unfold wF at h
  cases r with
  | ret s' o' => obtain ⟨rfl, rfl⟩ := h; rfl
  | _ => exact h.elim
theorem wF_of {r : FRes} {s : Slot} {o : List OV} {Q : Slot → List OV → Prop} (h : r = .ret s o) (k : Q s o) : wF r Q := by rw [h, wF_ret]; exact k
@[simp] theorem wR_call (mo : Option Nat) (F : FSem) (ds : List Opd) (Q : Opd → Env → Prop) : wR (callS mo F ds Γ) Q = wO (argsO Γ mo ds) fun args => jsOk mo ds (jsO Γ mo ds) = true ∧ wF (F args) fun r outs =>
    wR (resR r (putO mo ds outs (if (flatS r && outs.all flatO) = true ∨ jsO Γ mo ds = [] then Γ else frzJ (jsO Γ mo ds) Γ))) Q := by
  unfold callS
  cases argsO Γ mo ds with
  | none => with_unfolding_all rfl
  | some args =>
    simp only [wO_some]
    by_cases h : jsOk mo ds (jsO Γ mo ds) = true
    · rw [if_pos h]
      cases F args with
      | ret r outs =>
        by_cases h2 : (flatS r && outs.all flatO) = true
        · simp only [wF_ret, h2, if_true, true_or, h, true_and]
        · by_cases h3 : jsO Γ mo ds = []
          · rw [h3] at h ⊢
            simp only [h2, if_false, false_or, wF_ret, h, true_and, if_true]
            with_unfolding_all rfl
          · simp only [h2, if_false, wF_ret, h, true_and, h3, false_or]
            with_unfolding_all rfl
      | ex e outs => simp [wR, wF]
      | no => simp [wR, wF]
    · simp [h]
@[simp] theorem argsO_nil (mo : Option Nat) : argsO Γ mo [] = some [] := by cases mo <;> with_unfolding_all rfl
@[simp] theorem wO_args (mo : Option Nat) (ds : List Opd) (Q : List Slot → Prop) : wO (argsO Γ mo (d :: ds)) Q = wO (if mo = some 0 then argMu Γ d else argSh Γ d) fun a => wO (argsO Γ (down mo) ds) fun l => Q (a :: l) := by
  show wO (match (if mo = some 0 then argMu Γ d else argSh Γ d), argsO Γ (down mo) ds with | some a, some l => some (a :: l) | _, _ => none) Q = _
  cases (if mo = some 0 then argMu Γ d else argSh Γ d) <;> cases argsO Γ (down mo) ds <;> with_unfolding_all rfl
@[simp] theorem argSh_val : argSh Γ (.val p) = some (.sh p) := by with_unfolding_all rfl
def arS : Slot → Option Slot
  | .ow o => if o.plain then some (.sh o.pv) else none
  | .sh p => some (.sh p)
  | .un => none
@[simp] theorem arS_sh : arS (.sh p) = some (.sh p) := by with_unfolding_all rfl
@[simp] theorem arS_lst (xs : List PV) : arS (.ow (.lst xs)) = some (.sh (.lst xs)) := by with_unfolding_all rfl
@[simp] theorem arS_dK (ks vs) : arS (.ow (.dK ks vs)) = some (.sh (.dK ks vs)) := by with_unfolding_all rfl
@[simp] theorem arS_dT (ks vs) : arS (.ow (.dT ks vs)) = some (.sh (.dT ks vs)) := by with_unfolding_all rfl
@[simp] theorem argSh_plc : argSh Γ (.plc j) = (Γ[j]?).bind arS := by
  show (match Γ[j]? with | some (Slot.ow o) => if o.plain then some (Slot.sh o.pv) else none | some (Slot.sh p) => some (Slot.sh p) | _ => none) = _
  cases Γ[j]? with
  | none => with_unfolding_all rfl
  | some s => cases s <;> with_unfolding_all rfl
def amS : Slot → Option Slot
  | .ow o => some (.ow o)
  | _ => none
@[simp] theorem amS_ow (o : OV) : amS (.ow o) = some (.ow o) := by with_unfolding_all rfl
@[simp] theorem argMu_plc : argMu Γ (.plc j) = (Γ[j]?).bind amS := by
  show (match Γ[j]? with | some (Slot.ow o) => some (Slot.ow o) | _ => none) = _
  cases Γ[j]? with
  | none => with_unfolding_all rfl
  | some s => cases s <;> with_unfolding_all rfl
@[simp] theorem argMu_tmp (o : OV) : argMu Γ (.tmp o) = some (.ow o) := by with_unfolding_all rfl
@[simp] theorem down_n : down none = none := by with_unfolding_all rfl
@[simp] theorem down_0 : down (some 0) = none := by with_unfolding_all rfl
@[simp] theorem down_s (m : Nat) : down (some (m + 1)) = some m := by with_unfolding_all rfl
@[simp] theorem jsO_nil (mo : Option Nat) : jsO Γ mo [] = [] := by cases mo <;> with_unfolding_all rfl
@[simp] theorem jsO_cons (mo : Option Nat) (ds : List Opd) : jsO Γ mo (d :: ds) = (if mo = some 0 then [] else (ownJ Γ d).toList) ++ jsO Γ (down mo) ds := by with_unfolding_all rfl
@[simp] theorem ownJ_val : ownJ Γ (.val p) = none := by with_unfolding_all rfl
@[simp] theorem ownJ_tmp (o : OV) : ownJ Γ (.tmp o) = none := by with_unfolding_all rfl
def owS (j : Nat) : Slot → Option Nat
  | .ow _ => some j
  | _ => none
@[simp] theorem owS_ow (o : OV) : owS j (.ow o) = some j := by with_unfolding_all rfl
@[simp] theorem owS_sh : owS j (.sh p) = none := by with_unfolding_all rfl
@[simp] theorem ownJ_plc : ownJ Γ (.plc j) = (Γ[j]?).bind (owS j) := by
  show (match Γ[j]? with | some (Slot.ow _) => some j | _ => none) = _
  cases Γ[j]? with
  | none => with_unfolding_all rfl
  | some s => cases s <;> with_unfolding_all rfl
def plcO : Option Opd → Option Nat
  | some (.plc j) => some j
  | _ => none
@[simp] theorem jsOk_n (ds : List Opd) (js : List Nat) : jsOk none ds js = decide js.Nodup := by simp [jsOk, mOpd]
@[simp] theorem jsOk_nil (mo : Option Nat) (ds : List Opd) : jsOk mo ds [] = true := by
  unfold jsOk
  cases mOpd mo ds with
  | none => with_unfolding_all rfl
  | some d => cases d <;> with_unfolding_all rfl
@[simp] theorem jsOk_0 (ds : List Opd) (js : List Nat) : jsOk (some 0) (.plc j :: ds) js = (decide js.Nodup && !js.contains j) := by with_unfolding_all rfl
@[simp] theorem jsOk_0t (o : OV) (ds : List Opd) (js : List Nat) : jsOk (some 0) (.tmp o :: ds) js = decide js.Nodup := by simp [jsOk, mOpd]
@[simp] theorem putO_n (ds : List Opd) (outs : List OV) : putO none ds outs Γ = Γ := by with_unfolding_all rfl
@[simp] theorem putO_0 (ds : List Opd) (o : OV) : putO (some 0) (.plc j :: ds) [o] Γ = Γ.set j (.ow o) := by with_unfolding_all rfl
@[simp] theorem putO_1 (ds : List Opd) (o : OV) (d : Opd) : putO (some 1) (d :: .plc j :: ds) [o] Γ = Γ.set j (.ow o) := by with_unfolding_all rfl
@[simp] theorem putO_0t (t : OV) (ds : List Opd) (outs : List OV) : putO (some 0) (.tmp t :: ds) outs Γ = Γ := by with_unfolding_all rfl
@[simp] theorem resR_sh : resR (.sh p) Γ = .ok (.val p) Γ := by with_unfolding_all rfl
@[simp] theorem resR_ow (o : OV) : resR (.ow o) Γ = .ok (.tmp o) Γ := by with_unfolding_all rfl
@[simp] theorem frzJ_nil : frzJ [] Γ = Γ := by with_unfolding_all rfl
@[simp] theorem fCK_ap (mo : Option Nat) (F : FSem) (pi : List Nat) (a : ASem) : fCK mo F pi a Γ = (a Γ).bind fun ds Γ' => callS mo F (pick pi ds) Γ' := by with_unfolding_all rfl
@[simp] theorem pick_nil {l : List α} : pick [] l = [] := by with_unfolding_all rfl
@[simp] theorem pick_cons {l : List α} (i : Nat) (pi : List Nat) : pick (i :: pi) l = (l[i]?).toList ++ pick pi l := by
  unfold pick
  rw [List.filterMap_cons]
  cases l[i]? <;> with_unfolding_all rfl
/-! a def's end -/
def fE (ms : List Nat) (Q : Slot → List OV → Prop) (r : Fl) : Prop := wF (fnE ms r) Q
@[simp] theorem wF_fnS (n : Nat) (ms : List Nat) (b : SSem) (args : List Slot) (Q : Slot → List OV → Prop) (h : wL (b (args ++ List.replicate (n - args.length) .un)) (fE ms Q)) : wF (fnS n ms b args) Q := by
  show wF (fnE ms (b (args ++ List.replicate (n - args.length) .un))) Q
  unfold wF; unfold wL at h
  cases e : b (args ++ List.replicate (n - args.length) .un) <;> rw [e] at h <;> first | exact h.elim | (unfold fE wF at h; exact h)
@[simp] theorem fE_nx (ms : List Nat) (Q : Slot → List OV → Prop) : fE ms Q (.nx Γ) = wO (outsOf Γ ms) fun l => Q (.sh .non) l := by
  show wF (FRes.of (.sh .non) (outsOf Γ ms)) Q = _
  cases outsOf Γ ms <;> with_unfolding_all rfl
@[simp] theorem fE_val (ms : List Nat) (Q : Slot → List OV → Prop) : fE ms Q (.rt (.val p) Γ) = wO (outsOf Γ ms) fun l => Q (.sh p) l := by
  show wF (FRes.of (.sh p) (outsOf Γ ms)) Q = _
  cases outsOf Γ ms <;> with_unfolding_all rfl
@[simp] theorem fE_tmp (o : OV) (ms : List Nat) (Q : Slot → List OV → Prop) : fE ms Q (.rt (.tmp o) Γ) = wO (outsOf Γ ms) fun l => Q (.ow o) l := by
  show wF (FRes.of (.ow o) (outsOf Γ ms)) Q = _
  cases outsOf Γ ms <;> with_unfolding_all rfl
def rtS : Slot → Option Slot
  | .un => none
  | s => some s
@[simp] theorem rtS_sh : rtS (.sh p) = some (.sh p) := by with_unfolding_all rfl
@[simp] theorem rtS_ow (o : OV) : rtS (.ow o) = some (.ow o) := by with_unfolding_all rfl
@[simp] theorem fE_plc (ms : List Nat) (Q : Slot → List OV → Prop) : fE ms Q (.rt (.plc i) Γ) = (i ∉ ms ∧ wO Γ[i]? fun s => wO (rtS s) fun s => wO (outsOf Γ ms) fun l => Q s l) := by
  show wF (if i ∈ ms then .no else match Γ[i]? with | some (.ow o) => .of (.ow o) (outsOf Γ ms) | some (.sh p) => .of (.sh p) (outsOf Γ ms) | _ => .no) Q = _
  by_cases h : i ∈ ms
  · simp [h, wF]
  · rw [if_neg h]
    simp only [h, not_false_iff, true_and]
    cases Γ[i]? with
    | none => with_unfolding_all rfl
    | some s =>
      cases s with
      | un => with_unfolding_all rfl
      | ow o => simp only [wO_some, rtS_ow]; cases outsOf Γ ms <;> with_unfolding_all rfl
      | sh o => simp only [wO_some, rtS_sh]; cases outsOf Γ ms <;> with_unfolding_all rfl
@[simp] theorem outs_nil : outsOf Γ [] = some [] := by with_unfolding_all rfl
@[simp] theorem outs_0 (o : OV) : outsOf (.ow o :: Γ) [0] = some [o] := by with_unfolding_all rfl
@[simp] theorem outs_1 (s : Slot) (o : OV) : outsOf (s :: .ow o :: Γ) [1] = some [o] := by with_unfolding_all rfl
/-! classes -/
@[simp] theorem wO_allV_nil (Q : List PV → Prop) : wO (allV []) Q = Q [] := by with_unfolding_all rfl
@[simp] theorem wO_allV (ds : List Opd) (Q : List PV → Prop) : wO (allV (.val p :: ds)) Q = wO (allV ds) fun ps => Q (p :: ps) := by
  show wO ((allV ds).map (p :: ·)) Q = _
  cases allV ds <;> with_unfolding_all rfl
def newO : Slot → List OV → Option OV
  | .sh .non, [o] => some o
  | _, _ => none
@[simp] theorem newO_1 (o : OV) : newO (.sh .non) [o] = some o := by with_unfolding_all rfl
@[simp] theorem wR_newR (c : Str) (F : FSem) (qs : List PV) (Q : Opd → Env → Prop) : wR (newR c F qs Γ) Q = wF (F (.ow (.ins c [] []) :: qs.map .sh)) fun s outs => wO (newO s outs) fun o => Q (.tmp o) Γ := by
  unfold newR
  cases F (.ow (.ins c [] []) :: qs.map .sh) with
  | no => with_unfolding_all rfl
  | ex e o => cases o with
    | nil => with_unfolding_all rfl
    | cons a l => cases l <;> with_unfolding_all rfl
  | ret s o =>
    simp only [wF_ret]
    cases s with
    | un => with_unfolding_all rfl
    | ow _ => with_unfolding_all rfl
    | sh p =>
      cases p with
      | non => cases o with
        | nil => with_unfolding_all rfl
        | cons a l => cases l <;> with_unfolding_all rfl
      | _ => with_unfolding_all rfl
@[simp] theorem wR_newV (c : Str) (F : FSem) (ds : List Opd) (Q : Opd → Env → Prop) : wR (newV c F ds Γ) Q = wO (allV ds) fun qs => wR (newR c F qs Γ) Q := by
  unfold newV
  cases allV ds <;> with_unfolding_all rfl
@[simp] theorem eNewK_ap (c : Str) (F : FSem) (pi : List Nat) (a : ASem) : eNewK c F pi a Γ = (a Γ).bind fun ds Γ' => newV c F (pick pi ds) Γ' := by with_unfolding_all rfl
def fldO (ok : Str → Bool) (f : Str) : PV → Option PV
  | .ins c ns ps => if ok c then lookP f ns ps else none
  | _ => none
@[simp] theorem fldO_ins (ok : Str → Bool) (f c : Str) (ns ps) : fldO ok f (.ins c ns ps) = if ok c then lookP f ns ps else none := by with_unfolding_all rfl
@[simp] theorem wR_fld (ok : Str → Bool) (f : Str) (g : ESem) (Q : Opd → Env → Prop) : wR (eFld ok f g Γ) Q = wR (g Γ) fun d Γ' => wO (vw Γ' d) fun p => wO (fldO ok f p) fun q => Q (.val q) Γ' := by
  unfold eFld
  rw [wR_bind]
  congr 1; funext d Γ'
  cases vw Γ' d with
  | none => with_unfolding_all rfl
  | some p =>
    cases p <;> try with_unfolding_all rfl
    rename_i c ns ps
    simp only [wO_some, fldO_ins]
    by_cases h : ok c = true
    · simp only [h, if_true]; cases lookP f ns ps <;> with_unfolding_all rfl
    · simp only [h]; with_unfolding_all rfl
def pval : Opd → Option PV
  | .val p => some p
  | _ => none
@[simp] theorem pval_val : pval (.val p) = some p := by with_unfolding_all rfl
@[simp] theorem wR_prp (ok : Str → Bool) (F : FSem) (g : ESem) (Q : Opd → Env → Prop) : wR (ePrp ok F g Γ) Q = wR (eZ g Γ) fun d Γ1 => wO (pval d) fun p => isCls ok p = true ∧ wR (mthN F [p] Γ1) Q := by
  unfold ePrp
  rw [wR_bind]
  congr 1; funext d Γ'
  cases d with
  | val p => simp only [wO_some, pval_val]; by_cases h : isCls ok p = true <;> simp [h]
  | _ => with_unfolding_all rfl
def nilO : List OV → Option Unit
  | [] => some ()
  | _ => none
@[simp] theorem nilO_nil : nilO [] = some () := by with_unfolding_all rfl
@[simp] theorem wR_mthN (F : FSem) (qs : List PV) (Q : Opd → Env → Prop) : wR (mthN F qs Γ) Q = wF (F (qs.map .sh)) fun r outs => wO (nilO outs) fun _ => wR (resR r Γ) Q := by
  unfold mthN
  cases F (qs.map .sh) with
  | ret r o => cases o <;> with_unfolding_all rfl
  | ex e o => cases o <;> with_unfolding_all rfl
  | no => with_unfolding_all rfl
@[simp] theorem wR_mthR (F : FSem) (qs : List PV) (Q : Opd → Env → Prop) : wR (mthR F qs Γ) Q = wF (F (qs.map .sh)) fun r outs => wO (nilO outs) fun _ => wR (resR r Γ) Q := by
  unfold mthR
  cases F (qs.map .sh) with
  | ret r o => cases o <;> with_unfolding_all rfl
  | ex e o => cases o <;> with_unfolding_all rfl
  | no => with_unfolding_all rfl
@[simp] theorem wR_mth (ok : Str → Bool) (m : Str) (F : FSem) (pi : List Nat) (g : ESem) (a : ASem) (Q : Opd → Env → Prop) : wR (eMth ok m F pi g a Γ) Q = wR (eZ g Γ) fun d Γ1 => wO (pval d) fun p => isIns ok m p = true ∧ wR (a Γ1) fun ds Γ' => wO (allV (pick pi ds)) fun qs => wR (mthR F (p :: qs) Γ') Q := by
  unfold eMth
  rw [wR_bind]
  congr 1; funext d Γ'
  cases d with
  | val p =>
    simp only [wO_some, pval_val]
    by_cases h : isIns ok m p = true
    · simp only [h, if_true, wR_bind, true_and]
      congr 1; funext ds Γ2
      cases allV (pick pi ds) <;> with_unfolding_all rfl
    · simp [h]
  | _ => with_unfolding_all rfl
@[simp] theorem isCls_ins (ok : Str → Bool) (c : Str) (ns ps) : isCls ok (.ins c ns ps) = ok c := by with_unfolding_all rfl
@[simp] theorem isIns_ins (ok : Str → Bool) (m c : Str) (ns : List Str) (ps) : isIns ok m (.ins c ns ps) = (ok c && !ns.contains m) := by with_unfolding_all rfl
def fsO (ok : Str → Bool) (f : Str) (p : PV) : Slot → Option Slot
  | .ow (.ins c ns ps) => if ok c ∧ ns.length < 1000 then some (.ow (.ins c (putN f ns) (putP f p ns ps))) else none
  | _ => none
@[simp] theorem fsO_ins (ok : Str → Bool) (f c : Str) (ns ps) : fsO ok f p (.ow (.ins c ns ps)) = if ok c ∧ ns.length < 1000 then some (.ow (.ins c (putN f ns) (putP f p ns ps))) else none := by with_unfolding_all rfl
@[simp] theorem wL_fldS (ok : Str → Bool) (f : Str) (g : ESem) (Q : Fl → Prop) : wL (fldS ok j f g Γ) Q = wR (eZ g Γ) fun d Γ' => wO (pval d) fun p => wO Γ'[j]? fun s => wO (fsO ok f p s) fun s' => Q (.nx (Γ'.set j s')) := by
  unfold fldS
  rw [wL_fl]
  congr 1; funext d Γ'
  cases d with
  | val p =>
    simp only [wO_some, pval_val]
    cases Γ'[j]? with
    | none => with_unfolding_all rfl
    | some s =>
      cases s with
      | ow o =>
        cases o <;> try with_unfolding_all rfl
        rename_i c ns ps
        simp only [wO_some, fsO_ins]
        by_cases h : ok c = true ∧ ns.length < 1000
        · simp [h]
        · rw [if_neg h, if_neg h]; with_unfolding_all rfl
      | _ => with_unfolding_all rfl
  | _ => with_unfolding_all rfl
/-! stores, methods of lists -/
@[simp] theorem wL_asgG (t : GSem) (f : ESem) (Q : Fl → Prop) : wL (asgG t f Γ) Q = wR (eZ f Γ) fun d Γ1 => wO (pval d) fun p => wO (t p Γ1) fun Γ2 => Q (.nx Γ2) := by
  unfold asgG
  rw [wL_fl]
  congr 1; funext d Γ'
  cases d with
  | val p => simp only [wO_some, pval_val]; cases t p Γ' <;> with_unfolding_all rfl
  | _ => with_unfolding_all rfl
def owO : Slot → Option OV
  | .ow o => some o
  | _ => none
@[simp] theorem owO_ow (o : OV) : owO (.ow o) = some o := by with_unfolding_all rfl
@[simp] theorem wO_gI (op : OV → PV → PV → Option OV) (f : ESem) (Q : Env → Prop) : wO (gI op j f p Γ) Q = wO Γ[j]? fun s => wO (owO s) fun _ => wR (f Γ) fun d Γ1 => wO (vw Γ1 d) fun q => wO Γ1[j]? fun s => wO (owO s) fun o => wO (op o q p) fun o' => Q (Γ1.set j (.ow o')) := by
  unfold gI
  cases Γ[j]? with
  | none => with_unfolding_all rfl
  | some s =>
    cases s <;> try with_unfolding_all rfl
    simp only [wO_some, owO_ow]
    cases f Γ with
    | ex e Γ1 => with_unfolding_all rfl
    | no => with_unfolding_all rfl
    | ok d Γ1 =>
      simp only [wR_ok]
      cases vw Γ1 d with
      | none => with_unfolding_all rfl
      | some q =>
        cases Γ1[j]? with
        | none => with_unfolding_all rfl
        | some s =>
          cases s <;> try with_unfolding_all rfl
          simp only [wO_some, owO_ow, wO_map]
@[simp] theorem wO_gN (Q : Env → Prop) : wO (gN i p Γ) Q = (i < Γ.length ∧ Q (Γ.set i (.sh p))) := by
  unfold gN
  exact wO_guard _ _ _
def ptup : PV → Option (List PV)
  | .tup ps => some ps
  | _ => none
@[simp] theorem ptup_tup (ps : List PV) : ptup (.tup ps) = some ps := by with_unfolding_all rfl
@[simp] theorem wO_gT (t : List PV → Env → Option Env) (Q : Env → Prop) : wO (gT t p Γ) Q = wO (ptup p) fun ps => wO (t ps Γ) Q := by
  cases p <;> with_unfolding_all rfl
@[simp] theorem gs0_ap : gs0 [] Γ = some Γ := by with_unfolding_all rfl
@[simp] theorem gs1_ap (t : GSem) (u : List PV → Env → Option Env) (r : List PV) : gs1 t u (p :: r) Γ = (t p Γ).bind (u r) := by with_unfolding_all rfl
@[simp] theorem wR_eM (kd : OV → Bool) (op : OV → List PV → Option (OV × PV)) (a : ASem) (Q : Opd → Env → Prop) : wR (eM kd op j a Γ) Q = wO Γ[j]? fun s => wO (owO s) fun o0 => kd o0 = true ∧ wR (a Γ) fun ds Γ1 => wO (valsO ds) fun ps => wO Γ1[j]? fun s => wO (owO s) fun o => wO (op o ps) fun z => Q (.val z.2) (Γ1.set j (.ow z.1)) := by
  unfold eM
  cases Γ[j]? with
  | none => with_unfolding_all rfl
  | some s =>
    cases s <;> try with_unfolding_all rfl
    rename_i o0
    simp only [wO_some, owO_ow]
    by_cases h : kd o0 = true
    · simp only [h, if_true, true_and, wR_bind]
      congr 1; funext ds Γ1
      cases valsO ds with
      | none => with_unfolding_all rfl
      | some ps =>
        cases Γ1[j]? with
        | none => with_unfolding_all rfl
        | some s =>
          cases s <;> try with_unfolding_all rfl
          rename_i o
          simp only [wO_some, owO_ow]
          cases op o ps <;> with_unfolding_all rfl
    · simp [h]
@[simp] theorem isLst_lst (xs : List PV) : isLst (.lst xs) = true := by with_unfolding_all rfl
/-! a, b = .. -/
@[simp] theorem wL_par (is : List Nat) (f : ASem) (Q : Fl → Prop) : wL (parS is f Γ) Q = wR (f Γ) fun ds Γ' => wO (mvs ds Γ') fun z => Q (.nx ((is.zip z.1).foldl (fun Γ p => Γ.set p.1 p.2) z.2)) := by
  unfold parS
  rw [wL_fl]
  congr 1; funext ds Γ'
  cases mvs ds Γ' with
  | none => with_unfolding_all rfl
  | some z => with_unfolding_all rfl
@[simp] theorem mvs_nil : mvs [] Γ = some ([], Γ) := by with_unfolding_all rfl
@[simp] theorem wO_mvs_val (ds : List Opd) (Q : List Slot × Env → Prop) : wO (mvs (.val p :: ds) Γ) Q = wO (mvs ds Γ) fun z => Q (.sh p :: z.1, z.2) := by
  show wO ((mvs ds Γ).map fun z => (.sh p :: z.1, z.2)) Q = _
  rw [wO_map]
@[simp] theorem wO_mvs_tmp (o : OV) (ds : List Opd) (Q : List Slot × Env → Prop) : wO (mvs (.tmp o :: ds) Γ) Q = wO (mvs ds Γ) fun z => Q (.ow o :: z.1, z.2) := by
  show wO ((mvs ds Γ).map fun z => (.ow o :: z.1, z.2)) Q = _
  rw [wO_map]
def mvE (j : Nat) (Γ : Env) : Slot → Option (Slot × Env)
  | .ow o => some (.ow o, Γ.set j .un)
  | .sh p => some (.sh p, Γ)
  | .un => none
@[simp] theorem mvE_ow (o : OV) : mvE j Γ (.ow o) = some (.ow o, Γ.set j .un) := by with_unfolding_all rfl
@[simp] theorem mvE_sh : mvE j Γ (.sh p) = some (.sh p, Γ) := by with_unfolding_all rfl
@[simp] theorem wO_mvs_plc (ds : List Opd) (Q : List Slot × Env → Prop) : wO (mvs (.plc j :: ds) Γ) Q = wO Γ[j]? fun s => wO (mvE j Γ s) fun y => wO (mvs ds y.2) fun z => Q (y.1 :: z.1, z.2) := by
  show wO (match Γ[j]? with | some (.ow o) => (mvs ds (Γ.set j .un)).map fun z => (.ow o :: z.1, z.2) | some (.sh p) => (mvs ds Γ).map fun z => (.sh p :: z.1, z.2) | _ => none) Q = _
  cases Γ[j]? with
  | none => with_unfolding_all rfl
  | some s => cases s <;> simp [mvE]
/-! isinstance -/
@[simp] theorem wR_isi (bt : String → Option Bool) (ct : Str → Option Bool) (f : ESem) (Q : Opd → Env → Prop) : wR (eIsi bt ct f Γ) Q = wR (f Γ) fun d Γ' => wO (vw Γ' d) fun p => wO (tyT bt ct p) fun b => Q (.val (.bl b)) Γ' := by
  unfold eIsi
  rw [eUn_ap, wR_bind]
  congr 1; funext d Γ'
  rw [wR_lift1]
  congr 1; funext p
  cases tyT bt ct p <;> with_unfolding_all rfl
/-! what is walked -/
def pseq : Opd → Option (List PV)
  | .val (.lst ps) => some ps
  | .val (.tup ps) => some ps
  | _ => none
@[simp] theorem pseq_l (ps : List PV) : pseq (.val (.lst ps)) = some ps := by with_unfolding_all rfl
@[simp] theorem pseq_t (ps : List PV) : pseq (.val (.tup ps)) = some ps := by with_unfolding_all rfl
@[simp] theorem wR_iSeq (f : ESem) (Q : List PV → Env → Prop) : wR (iSeq f Γ) Q = wR (eZ f Γ) fun d Γ' => wO (pseq d) fun ps => Q ps Γ' := by
  unfold iSeq
  rw [wR_bind]
  congr 1; funext d Γ'
  cases d with
  | val p => cases p <;> with_unfolding_all rfl
  | _ => with_unfolding_all rfl
@[simp] theorem wR_iEnA (f : ESem) (Q : List PV → Env → Prop) : wR (iEnA f Γ) Q = wR (eZ f Γ) fun d Γ' => wO (pseq d) fun ps => Q (enumL 0 ps) Γ' := by
  unfold iEnA
  rw [wR_bind]
  congr 1; funext d Γ'
  cases d with
  | val p => cases p <;> with_unfolding_all rfl
  | _ => with_unfolding_all rfl
def pzip : Opd → Opd → Option (List PV)
  | .val (.lst ps), .val (.lst qs) => some (zipL ps qs)
  | .val (.tup ps), .val (.tup qs) => some (zipL ps qs)
  | _, _ => none
@[simp] theorem pzip_l (ps qs : List PV) : pzip (.val (.lst ps)) (.val (.lst qs)) = some (zipL ps qs) := by with_unfolding_all rfl
@[simp] theorem pzip_t (ps qs : List PV) : pzip (.val (.tup ps)) (.val (.tup qs)) = some (zipL ps qs) := by with_unfolding_all rfl
@[simp] theorem wR_iZp (f g : ESem) (Q : List PV → Env → Prop) : wR (iZp f g Γ) Q = wR (eZ f Γ) fun d Γ1 => wR (eZ g Γ1) fun d2 Γ' => wO (pzip d d2) fun ps => Q ps Γ' := by
  unfold iZp
  rw [wR_bind]
  congr 1; funext d Γ1
  rw [wR_bind]
  congr 1; funext d2 Γ'
  unfold pzip
  split <;> simp_all
@[simp] theorem wR_iRg1 (f : ESem) (Q : List PV → Env → Prop) : wR (iRg1 f Γ) Q = wR (f Γ) fun d Γ' => wO (vw Γ' d) fun p => wO (pint p) fun j => rgOk j = true ∧ Q (rgL 0 j) Γ' := by
  unfold iRg1
  rw [wR_bind]
  congr 1; funext d Γ'
  cases vw Γ' d with
  | none => with_unfolding_all rfl
  | some p =>
    cases p <;> try with_unfolding_all rfl
    rename_i j
    simp only [wO_some, pint_int]
    by_cases h : rgOk j = true <;> simp [h]
@[simp] theorem wR_iRg2 (f g : ESem) (Q : List PV → Env → Prop) : wR (iRg2 f g Γ) Q = wR (f Γ) fun d Γ1 => wR (g Γ1) fun d2 Γ' => wO (vw Γ' d) fun p => wO (vw Γ' d2) fun q => wO (pint p) fun i => wO (pint q) fun j => rgOk i = true ∧ rgOk j = true ∧ Q (rgL i j) Γ' := by
  unfold iRg2
  rw [wR_bind]
  congr 1; funext d Γ1
  rw [wR_bind]
  congr 1; funext d2 Γ'
  cases vw Γ' d with
  | none => with_unfolding_all rfl
  | some p =>
    cases vw Γ' d2 with
    | none => cases p <;> with_unfolding_all rfl
    | some q =>
      cases p <;> cases q <;> try with_unfolding_all rfl
      rename_i i j
      simp only [wO_some, pint_int]
      by_cases h : rgOk i = true <;> by_cases h2 : rgOk j = true <;> simp [h, h2]
@[simp] theorem wR_eLR1 (f : ESem) (Q : Opd → Env → Prop) : wR (eLR1 f Γ) Q = wR (f Γ) fun d Γ' => wO (vw Γ' d) fun p => wO (pint p) fun j => rgSz 0 j = true ∧ Q (.tmp (.lst (rgL 0 j))) Γ' := by
  unfold eLR1
  rw [wR_bind]
  congr 1; funext d Γ'
  cases vw Γ' d with
  | none => with_unfolding_all rfl
  | some p =>
    cases p <;> try with_unfolding_all rfl
    rename_i j
    simp only [wO_some, pint_int]
    by_cases h : rgSz 0 j = true <;> simp [h]
@[simp] theorem wR_eLR2 (f g : ESem) (Q : Opd → Env → Prop) : wR (eLR2 f g Γ) Q = wR (f Γ) fun d Γ1 => wR (g Γ1) fun d2 Γ' => wO (vw Γ' d) fun p => wO (vw Γ' d2) fun q => wO (pint p) fun i => wO (pint q) fun j => rgSz i j = true ∧ Q (.tmp (.lst (rgL i j))) Γ' := by
  unfold eLR2
  rw [wR_bind]
  congr 1; funext d Γ1
  rw [wR_bind]
  congr 1; funext d2 Γ'
  cases vw Γ' d with
  | none => with_unfolding_all rfl
  | some p =>
    cases vw Γ' d2 with
    | none => cases p <;> with_unfolding_all rfl
    | some q =>
      cases p <;> cases q <;> try with_unfolding_all rfl
      rename_i i j
      simp only [wO_some, pint_int]
      by_cases h : rgSz i j = true <;> simp [h]
@[simp] theorem nonP_non : isNonP .non = true := by with_unfolding_all rfl
@[simp] theorem nonP_int (i : Int) : isNonP (.int i) = false := by with_unfolding_all rfl
@[simp] theorem nonP_bl (b : Bool) : isNonP (.bl b) = false := by with_unfolding_all rfl
@[simp] theorem nonP_str (x : Str) : isNonP (.str x) = false := by with_unfolding_all rfl
@[simp] theorem nonP_tup (xs : List PV) : isNonP (.tup xs) = false := by with_unfolding_all rfl
@[simp] theorem nonP_lst (xs : List PV) : isNonP (.lst xs) = false := by with_unfolding_all rfl
@[simp] theorem nonP_ins (c ns vs) : isNonP (.ins c ns vs) = false := by with_unfolding_all rfl
@[simp] theorem nonP_dK (c ns) : isNonP (.dK c ns) = false := by with_unfolding_all rfl
/-- a product whose one factor is small -/
theorem mulOr_l {i j : Int} (h1 : -1000000000000000000 < i) (h2 : i < 1000000000000000000) : mulOk i j = true ∨ mulOkW i j = true := by
  refine .inl ?_; unfold mulOk; simp; omega
theorem mulOr_r {i j : Int} (h1 : -1000000000000000000 < j) (h2 : j < 1000000000000000000) : mulOk i j = true ∨ mulOkW i j = true := by
  refine .inl ?_; unfold mulOk; simp; omega
@[simp] theorem mulOk_l {i j : Int} (h1 : -1000000000000000000 < i) (h2 : i < 1000000000000000000) : mulOk i j = true := by
  unfold mulOk; simp; omega
@[simp] theorem rg_t {i : Int} (h0 : -1000000 ≤ i) (h1 : i ≤ 1000000) : rgOk i = true := rgOk_n h0 h1
end
end Mv
end S38_

section S39_
set_option Elab.async false
set_option linter.all false
set_option maxRecDepth 100000
namespace Mv
open PySem PySem.Spec PyProof.Rows L2

/-! ### loops -/
theorem wL_mono {r : Fl} {P Q : Fl → Prop} (h : wL r P) (k : ∀ r, P r → Q r) : wL r Q := by
  unfold wL at *
  cases r <;> first | exact k _ h | exact h
theorem wR_mono {α : Type} {r : Rs α} {P Q : α → Env → Prop} (h : wR r P) (k : ∀ a Γ, P a Γ → Q a Γ) : wR r Q := by
  unfold wR at *
  cases r with
  | ok a Γ => exact k a Γ h
  | _ => exact h
theorem wO_mono {α : Type} {r : Option α} {P Q : α → Prop} (h : wO r P) (k : ∀ a, P a → Q a) : wO r Q := by
  unfold wO at *
  cases r with
  | some a => exact k a h
  | _ => exact h
theorem wO_of {α : Type} {r : Option α} {a : α} {Q : α → Prop} (h : r = some a) (k : Q a) : wO r Q := by rw [h, wO_some]; exact k
theorem wO_ex {α : Type} {r : Option α} {Q : α → Prop} (h : wO r Q) : ∃ a, r = some a ∧ Q a := by
  unfold wO at h
  cases r with
  | some a => exact ⟨a, rfl, h⟩
  | none => exact h.elim
theorem wR_ex {α : Type} {r : Rs α} {Q : α → Env → Prop} (h : wR r Q) : ∃ a Γ, r = .ok a Γ ∧ Q a Γ := by
  unfold wR at h
  cases r with
  | ok a Γ => exact ⟨a, Γ, rfl, h⟩
  | _ => exact h.elim
/-- a turn's end: N goes on, B breaks off, Q leaves the def -/
def lS (N B : Env → Prop) (Q : Fl → Prop) : Fl → Prop
  | .nx Γ => N Γ
  | .ct Γ => N Γ
  | .bk Γ => B Γ
  | .rt d Γ => Q (.rt d Γ)
  | _ => False
section
variable {Γ : Env} {d : Opd} {N B : Env → Prop} {Q : Fl → Prop}
@[simp] theorem lS_nx : lS N B Q (.nx Γ) = N Γ := rfl
@[simp] theorem lS_ct : lS N B Q (.ct Γ) = N Γ := rfl
@[simp] theorem lS_bk : lS N B Q (.bk Γ) = B Γ := rfl
@[simp] theorem lS_rt : lS N B Q (.rt d Γ) = Q (.rt d Γ) := rfl
end
@[simp] theorem kill_cons (i : Nat) (kl : List Nat) (Γ : Env) : kill (i :: kl) Γ = kill kl (Γ.set i .un) := rfl
@[simp] theorem wipe_nil (Γ : Env) : wipeE Γ [] = Γ := rfl
@[simp] theorem wipe_cons (i : Nat) (kl : List Nat) (Γ : Env) : wipeE Γ (i :: kl) = (wipeE Γ kl).set i .un := rfl
@[simp] theorem rest_nil (Γ0 Γ : Env) : rest Γ0 [] Γ = Γ := rfl
@[simp] theorem rest_cons (Γ0 : Env) (i : Nat) (kl : List Nat) (Γ : Env) : rest Γ0 (i :: kl) Γ = rest Γ0 kl (Γ.set i (Γ0[i]?.getD .un)) := rfl
theorem w_for {α : Type} {tg : GSem} {kl : List Nat} {b : SSem} {em : α → PV} {Q : Fl → Prop} (I : Nat → Env → Prop) : ∀ (xs : List α) (k : Nat) (Γ : Env), I k Γ →
    (∀ (i : Nat) (x : α) Γ, xs[i]? = some x → I (k + i) Γ → wO (tg (em x) Γ) fun Γ1 => wL (b Γ1) (lS (fun Γ2 => I (k + i + 1) (kill kl Γ2)) (fun Γ2 => Q (.nx (kill kl Γ2))) Q)) →
    (∀ Γ, I (k + xs.length) Γ → Q (.nx Γ)) → wL (loopL tg kl b (xs.map em) Γ) Q
  | [], k, Γ, h0, hs, he => by with_unfolding_all exact he Γ h0
  | x :: xs, k, Γ, h0, hs, he => by
    have h1 := hs 0 x Γ rfl h0
    show wL (match tg (em x) Γ with | none => .no | some Γ1 => match b Γ1 with | .nx Γ2 => loopL tg kl b (xs.map em) (kill kl Γ2) | .ct Γ2 => loopL tg kl b (xs.map em) (kill kl Γ2) | .bk Γ2 => .nx (kill kl Γ2) | r => r) Q
    obtain ⟨Γ1, e1, h2⟩ := wO_ex h1
    rw [e1]
    have next : ∀ Γ', I (k + 1) Γ' → wL (loopL tg kl b (xs.map em) Γ') Q := fun Γ' hI => w_for I xs (k + 1) Γ' hI (fun i y Γ hy hI => by
      have := hs (i + 1) y Γ (by simpa using hy) (by rw [show k + (i + 1) = k + 1 + i by omega]; exact hI)
      rw [show k + (i + 1) = k + 1 + i by omega] at this
      exact this) fun Γ hI => he Γ (by rw [List.length_cons, show k + (xs.length + 1) = k + 1 + xs.length by omega]; exact hI)
    show wL (match b Γ1 with | .nx Γ2 => loopL tg kl b (xs.map em) (kill kl Γ2) | .ct Γ2 => loopL tg kl b (xs.map em) (kill kl Γ2) | .bk Γ2 => .nx (kill kl Γ2) | r => r) Q
    cases eb : b Γ1 with
    | nx Γ2 => rw [eb] at h2; with_unfolding_all exact next _ h2
    | ct Γ2 => rw [eb] at h2; with_unfolding_all exact next _ h2
    | bk Γ2 => rw [eb] at h2; with_unfolding_all exact h2
    | rt d Γ2 => rw [eb] at h2; with_unfolding_all exact h2
    | ex e Γ2 => rw [eb] at h2; with_unfolding_all exact False.elim h2
    | no => rw [eb] at h2; with_unfolding_all exact False.elim h2
/-- by an invariant that counts from 0 -/
theorem w_for0 {α : Type} {tg : GSem} {kl : List Nat} {b : SSem} {em : α → PV} {xs : List α} {Γ : Env} {Q : Fl → Prop} (I : Nat → Env → Prop) (h0 : I 0 Γ)
    (hs : ∀ (i : Nat) (x : α) Γ, xs[i]? = some x → I i Γ → wO (tg (em x) Γ) fun Γ1 => wL (b Γ1) (lS (fun Γ2 => I (i + 1) (kill kl Γ2)) (fun Γ2 => Q (.nx (kill kl Γ2))) Q))
    (he : ∀ Γ, I xs.length Γ → Q (.nx Γ)) : wL (loopL tg kl b (xs.map em) Γ) Q :=
  w_for I xs 0 Γ h0 (fun i x Γ hx hI => by rw [Nat.zero_add] at hI ⊢; exact hs i x Γ hx hI) fun Γ hI => he Γ (by rw [Nat.zero_add] at hI; exact hI)
/-- by an invariant of a state s: one turn is a step -/
theorem w_fold {α σ : Type} {tg : GSem} {kl : List Nat} {b : SSem} {em : α → PV} {Q : Fl → Prop} (st : σ → Env → Prop) (step : σ → α → σ) : ∀ (xs : List α) (s : σ) (Γ : Env), st s Γ →
    (∀ s, ∀ x ∈ xs, ∀ Γ, st s Γ → wO (tg (em x) Γ) fun Γ1 => wL (b Γ1) (lS (fun Γ2 => st (step s x) (kill kl Γ2)) (fun _ => False) fun _ => False)) →
    (∀ Γ, st (xs.foldl step s) Γ → Q (.nx Γ)) → wL (loopL tg kl b (xs.map em) Γ) Q
  | [], s, Γ, h0, _, he => by with_unfolding_all exact he Γ h0
  | x :: xs, s, Γ, h0, hs, he => by
    have h1 := hs s x List.mem_cons_self Γ h0
    show wL (match tg (em x) Γ with | none => .no | some Γ1 => match b Γ1 with | .nx Γ2 => loopL tg kl b (xs.map em) (kill kl Γ2) | .ct Γ2 => loopL tg kl b (xs.map em) (kill kl Γ2) | .bk Γ2 => .nx (kill kl Γ2) | r => r) Q
    obtain ⟨Γ1, e1, h2⟩ := wO_ex h1
    rw [e1]
    have next : ∀ Γ', st (step s x) Γ' → wL (loopL tg kl b (xs.map em) Γ') Q := fun Γ' hI => w_fold st step xs _ Γ' hI (fun s y hy => hs s y (List.mem_cons_of_mem _ hy)) he
    show wL (match b Γ1 with | .nx Γ2 => loopL tg kl b (xs.map em) (kill kl Γ2) | .ct Γ2 => loopL tg kl b (xs.map em) (kill kl Γ2) | .bk Γ2 => .nx (kill kl Γ2) | r => r) Q
    cases eb : b Γ1 with
    | nx Γ2 => rw [eb] at h2; with_unfolding_all exact next _ h2
    | ct Γ2 => rw [eb] at h2; with_unfolding_all exact next _ h2
    | bk Γ2 => rw [eb] at h2; with_unfolding_all exact False.elim h2
    | rt d Γ2 => rw [eb] at h2; with_unfolding_all exact False.elim h2
    | ex e Γ2 => rw [eb] at h2; with_unfolding_all exact False.elim h2
    | no => rw [eb] at h2; with_unfolding_all exact False.elim h2
/-- while, by a measure -/
theorem w_while {c : TSem} {kl : List Nat} {b : SSem} {Q : Fl → Prop} (I : Nat → Env → Prop)
    (hs : ∀ n Γ, I n Γ → wR (c Γ) fun v Γ1 => (v = true → wL (b Γ1) (lS (fun Γ2 => ∃ m, m < n ∧ I m (kill kl Γ2)) (fun Γ2 => Q (.nx (kill kl Γ2))) Q)) ∧ (v = false → Q (.nx Γ1))) :
    ∀ n Γ, I n Γ → wL (whileS c kl b Γ) Q := by
  have key : ∀ n Γ, I n Γ → ∃ k r, whileN c kl b k Γ = some r ∧ wL r Q := by
    intro n
    induction n using Nat.strongRecOn with
    | _ n ih =>
      intro Γ hI
      obtain ⟨v, Γ1, ec, h1⟩ := wR_ex (hs n Γ hI)
      cases v with
      | false => exact ⟨1, .nx Γ1, by unfold whileN; simp only [ec], by with_unfolding_all exact h1.2 rfl⟩
      | true =>
        have h1 := h1.1 rfl
        cases eb : b Γ1 with
        | nx Γ2 =>
          rw [eb] at h1
          obtain ⟨m, hm, hI2⟩ : ∃ m, m < n ∧ I m (kill kl Γ2) := by with_unfolding_all exact h1
          obtain ⟨k, r, ek, hr⟩ := ih m hm _ hI2
          exact ⟨k + 1, r, by unfold whileN; simp only [ec, eb]; exact ek, hr⟩
        | ct Γ2 =>
          rw [eb] at h1
          obtain ⟨m, hm, hI2⟩ : ∃ m, m < n ∧ I m (kill kl Γ2) := by with_unfolding_all exact h1
          obtain ⟨k, r, ek, hr⟩ := ih m hm _ hI2
          exact ⟨k + 1, r, by unfold whileN; simp only [ec, eb]; exact ek, hr⟩
        | bk Γ2 => rw [eb] at h1; with_unfolding_all exact ⟨1, .nx (kill kl Γ2), by unfold whileN; simp only [ec, eb], h1⟩
        | rt d Γ2 => rw [eb] at h1; with_unfolding_all exact ⟨1, .rt d Γ2, by unfold whileN; simp only [ec, eb], h1⟩
        | ex e Γ2 => rw [eb] at h1; with_unfolding_all exact False.elim h1
        | no => rw [eb] at h1; with_unfolding_all exact False.elim h1
  intro n Γ hI
  obtain ⟨k, r, ek, hr⟩ := key n Γ hI
  rw [whileS_of ek]
  exact hr

/-! ### comprehensions -/
@[simp] theorem wR_lcE (it : ISem) (tg : GSem) (t : TSem) (f : ESem) (vs : List Nat) (Γ : Env) (Q : Opd → Env → Prop) : wR (lcE it tg t f vs Γ) Q = wR (it Γ) fun ps Γ1 => wR (lcL tg t f vs ps [] (wipeE Γ1 vs)) fun qs Γ2 => Q (.tmp (.lst qs)) (rest Γ1 vs Γ2) := by
  unfold lcE
  rw [wR_bind]
  congr 1; funext ps Γ1
  rw [wR_bind]
  with_unfolding_all rfl
@[simp] theorem tYes_ap (Γ : Env) : tYesS Γ = .ok true Γ := rfl
theorem w_lc {α : Type} {tg : GSem} {t : TSem} {f : ESem} {vs : List Nat} {em : α → PV} {Q : List PV → Env → Prop} (I : Nat → List PV → Env → Prop) : ∀ (xs : List α) (k : Nat) (acc : List PV) (Γ : Env), I k acc Γ → acc.length + xs.length ≤ sizeLine →
    (∀ (i : Nat) (x : α) acc Γ, xs[i]? = some x → I (k + i) acc Γ → wO (tg (em x) (wipeE Γ vs)) fun Γ1 => wR (t Γ1) fun b Γ2 => (b = true → wR (eZ f Γ2) (fun d Γ3 => ∃ q, d = .val q ∧ I (k + i + 1) (acc ++ [q]) (wipeE Γ3 vs))) ∧ (b = false → I (k + i + 1) acc (wipeE Γ2 vs))) →
    (∀ acc Γ, I (k + xs.length) acc Γ → Q acc Γ) → wR (lcL tg t f vs (xs.map em) acc Γ) Q
  | [], k, acc, Γ, h0, _, hs, he => by with_unfolding_all exact he acc Γ h0
  | x :: xs, k, acc, Γ, h0, hl, hs, he => by
    rw [List.length_cons] at hl
    have h1 := hs 0 x acc Γ rfl h0
    have next : ∀ acc' Γ', I (k + 1) acc' Γ' → acc'.length ≤ acc.length + 1 → wR (lcL tg t f vs (xs.map em) acc' Γ') Q := fun acc' Γ' hI hl' => w_lc I xs (k + 1) acc' Γ' hI (by omega) (fun i y acc Γ hy hI => by
      have := hs (i + 1) y acc Γ (by simpa using hy) (by rw [show k + (i + 1) = k + 1 + i by omega]; exact hI)
      rw [show k + (i + 1) = k + 1 + i by omega] at this
      exact this) fun acc Γ hI => he acc Γ (by rw [List.length_cons, show k + (xs.length + 1) = k + 1 + xs.length by omega]; exact hI)
    obtain ⟨Γ1, e1, h2⟩ := wO_ex h1
    obtain ⟨v, Γ2, e2, h3⟩ := wR_ex h2
    show wR (lcL tg t f vs (em x :: xs.map em) acc Γ) Q
    unfold lcL
    simp only [e1, e2]
    cases v with
    | false => exact next acc _ (h3.2 rfl) (by omega)
    | true =>
      obtain ⟨d, Γ3, e3, q, rfl, h4⟩ := wR_ex (h3.1 rfl)
      simp only [e3]
      rw [if_pos (by omega)]
      exact next _ _ h4 (by rw [List.length_append, List.length_singleton]; exact Nat.le_refl _)
theorem w_lc0 {α : Type} {tg : GSem} {t : TSem} {f : ESem} {vs : List Nat} {em : α → PV} {xs : List α} {Γ : Env} {Q : List PV → Env → Prop} (I : Nat → List PV → Env → Prop) (h0 : I 0 [] Γ) (hl : xs.length ≤ sizeLine)
    (hs : ∀ (i : Nat) (x : α) acc Γ, xs[i]? = some x → I i acc Γ → wO (tg (em x) (wipeE Γ vs)) fun Γ1 => wR (t Γ1) fun b Γ2 => (b = true → wR (eZ f Γ2) (fun d Γ3 => ∃ q, d = .val q ∧ I (i + 1) (acc ++ [q]) (wipeE Γ3 vs))) ∧ (b = false → I (i + 1) acc (wipeE Γ2 vs)))
    (he : ∀ acc Γ, I xs.length acc Γ → Q acc Γ) : wR (lcL tg t f vs (xs.map em) [] Γ) Q :=
  w_lc I xs 0 [] Γ h0 (by rw [List.length_nil, Nat.zero_add]; exact hl) (fun i x acc Γ hx hI => by rw [Nat.zero_add] at hI ⊢; exact hs i x acc Γ hx hI) fun acc Γ hI => he acc Γ (by rw [Nat.zero_add] at hI; exact hI)
/-- each item's image, no test; nothing else changes -/
theorem w_lcM {α : Type} {tg : GSem} {f : ESem} {vs : List Nat} {em : α → PV} {xs : List α} {Γ : Env} {Q : List PV → Env → Prop} (g : α → PV) (hl : xs.length ≤ sizeLine)
    (hs : ∀ x ∈ xs, wO (tg (em x) (wipeE Γ vs)) fun Γ1 => wR (eZ f Γ1) fun d Γ3 => d = .val (g x) ∧ wipeE Γ3 vs = Γ) (he : Q (xs.map g) Γ) : wR (lcL tg tYesS f vs (xs.map em) [] Γ) Q := by
  have h := lc_map em g Γ xs [] (tg := tg) (f := f) (vs := vs) (fun x hx => by
    obtain ⟨Γ1, e1, h2⟩ := wO_ex (hs x hx)
    obtain ⟨d, Γ3, e3, rfl, h4⟩ := wR_ex h2
    exact ⟨Γ1, Γ3, e1, e3, h4⟩) (by rw [List.length_nil, Nat.zero_add]; exact hl)
  rw [h]
  with_unfolding_all exact he
theorem w_lcF {α : Type} {tg : GSem} {t : TSem} {f : ESem} {vs : List Nat} {em : α → PV} {xs : List α} {Γ : Env} {Q : List PV → Env → Prop} (c : α → Bool) (g : α → PV) (hl : xs.length ≤ sizeLine)
    (hs : ∀ x ∈ xs, wO (tg (em x) (wipeE Γ vs)) fun Γ1 => wR (t Γ1) fun b Γ2 => b = c x ∧ (b = true → wR (eZ f Γ2) (fun d Γ3 => d = .val (g x) ∧ wipeE Γ3 vs = Γ)) ∧ (b = false → wipeE Γ2 vs = Γ))
    (he : Q ((xs.filter c).map g) Γ) : wR (lcL tg t f vs (xs.map em) [] Γ) Q := by
  have h := lc_filter em c g Γ xs [] (tg := tg) (t := t) (f := f) (vs := vs) (fun x hx => by
    obtain ⟨Γ1, e1, h2⟩ := wO_ex (hs x hx)
    obtain ⟨v, Γ2, e2, rfl, h3⟩ := wR_ex h2
    refine ⟨Γ1, Γ2, e1, e2, fun hc => h3.2 hc, fun hc => ?_⟩
    obtain ⟨d, Γ3, e3, rfl, h4⟩ := wR_ex (h3.1 hc)
    exact ⟨Γ3, e3, h4⟩) (by rw [List.length_nil, Nat.zero_add]; exact hl)
  rw [h]
  with_unfolding_all exact he
/-! ### walked things as images -/
theorem rgL_nat (lo hi : Int) : rgL lo hi = (List.range (hi - lo).toNat).map fun k : Nat => PV.int (lo + k) := rfl
theorem rgL0 (n : Nat) : rgL 0 (n : Int) = (List.range n).map fun k : Nat => PV.int k := by
  unfold rgL
  rw [show ((n : Int) - 0).toNat = n by omega]
  apply List.map_congr_left
  intro k _
  rw [Int.zero_add]
theorem enumL_map {α : Type} (em : α → PV) : ∀ (xs : List α) (k : Nat), enumL k (xs.map em) = (xs.zipIdx k).map fun z => PV.tup [.int (z.2 : Int), em z.1]
  | [], k => rfl
  | x :: xs, k => by
    show PV.tup [.int k, em x] :: enumL (k + 1) (xs.map em) = _
    rw [enumL_map em xs (k + 1), List.zipIdx_cons, List.map_cons]
theorem zipL_map {α β : Type} (f : α → PV) (g : β → PV) : ∀ (xs : List α) (ys : List β), zipL (xs.map f) (ys.map g) = (xs.zip ys).map fun z => PV.tup [f z.1, g z.2]
  | [], ys => by simp [zipL]
  | x :: xs, [] => by simp [zipL]
  | x :: xs, y :: ys => by
    show PV.tup [f x, g y] :: zipL (xs.map f) (ys.map g) = _
    rw [zipL_map f g xs ys]
    rfl
/-! ### subscripts -/
theorem at_nat {α : Type} {xs : List α} {i : Int} {x : α} (h0 : 0 ≤ i) (h : xs[i.toNat]? = some x) : L2.atI xs i = some x := by
  have : ((i.toNat : Nat) : Int) = i := by omega
  rw [← this]
  exact L2.atI_nat h
theorem at_map {α : Type} {em : α → PV} {xs : List α} {i : Int} {x : α} (h0 : 0 ≤ i) (h : xs[i.toNat]? = some x) : L2.atI (xs.map em) i = some (em x) := at_nat h0 (by rw [List.getElem?_map, h]; rfl)
theorem at_last {α : Type} {xs : List α} (h : xs ≠ []) : L2.atI xs (-1) = some (xs.getLast h) := by
  have hl : 0 < xs.length := List.length_pos_iff.mpr h
  unfold L2.atI L2.ixN
  rw [if_neg (by omega), if_pos (by omega)]
  show xs[(-1 + (xs.length : Int)).toNat]? = _
  rw [show (-1 + (xs.length : Int)).toNat = xs.length - 1 by omega, List.getElem?_eq_getElem (by omega), List.getLast_eq_getElem]
theorem ix_nat {n : Nat} {i : Int} (h0 : 0 ≤ i) (h : i < n) : L2.ixN n i = some i.toNat := by
  unfold L2.ixN
  rw [if_pos h0, if_pos h]
theorem at_neg {α : Type} {xs : List α} {k : Nat} (h0 : 0 < k) (h : k ≤ xs.length) : L2.atI xs (-(k : Int)) = xs[xs.length - k]? := by
  unfold L2.atI L2.ixN
  rw [if_neg (by omega), if_pos (by omega)]
  show xs[(-(k : Int) + (xs.length : Int)).toNat]? = _
  rw [show (-(k : Int) + (xs.length : Int)).toNat = xs.length - k by omega]
theorem wF_if {c : Prop} [Decidable c] {a b : FRes} {Q : Slot → List OV → Prop} : wF (if c then a else b) Q = if c then wF a Q else wF b Q := by split <;> rfl
end Mv
namespace Mv
open PySem PySem.Spec PyProof.Rows L2
/-- a cut behind a statement -/
def cS (M : Env → Prop) : Fl → Prop
  | .nx Γ => M Γ
  | _ => False
@[simp] theorem cS_nx (M : Env → Prop) (Γ : Env) : cS M (.nx Γ) = M Γ := rfl
theorem w_cut {a b : SSem} {Γ : Env} {Q : Fl → Prop} (M : Env → Prop) (h1 : wL (a Γ) (cS M)) (h2 : ∀ Γ', M Γ' → wL (b Γ') Q) : wL (seqS a b Γ) Q := by
  rw [seqS_ap, wL_seq]
  refine wL_mono h1 ?_
  intro r h
  cases r with
  | nx Γ' => exact h2 Γ' h
  | _ => exact h.elim
theorem w_cutR {α : Type} {r : Rs α} {Q : α → Env → Prop} (M : α → Env → Prop) (h1 : wR r M) (h2 : ∀ a Γ', M a Γ' → Q a Γ') : wR r Q := wR_mono h1 h2
theorem rep_flat (p : PV) : ∀ m : Nat, (List.replicate m [p]).flatten = List.replicate m p
  | 0 => rfl
  | m + 1 => by rw [List.replicate_succ, List.replicate_succ, List.flatten_cons, rep_flat p m]; rfl
theorem rep_one (p : PV) {m : Nat} (hm : m ≤ 16000000) : repL (.lst [p]) (.int m) = some (.tmp (.lst (List.replicate m p))) := by
  unfold repL
  have e : (decide (-(2 ^ 63 : Int) ≤ (m : Int)) && decide ((m : Int) < (2 ^ 63 : Int)) && decide ([p].length * (m : Int).toNat ≤ sizeLine)) = true := by
    simp only [Bool.and_eq_true, decide_eq_true_eq, List.length_singleton, Int.toNat_natCast]
    exact ⟨⟨by omega, by omega⟩, le_sz (by omega)⟩
  show (if (decide (-(2 ^ 63 : Int) ≤ (m : Int)) && decide ((m : Int) < (2 ^ 63 : Int)) && decide ([p].length * (m : Int).toNat ≤ sizeLine)) = true then _ else _) = _
  rw [if_pos e, Int.toNat_natCast, rep_flat]
/-! ### more of == -/
theorem eqP_bl (i j : Bool) : eqP (.bl i) (.bl j) = some (decide (i = j)) := by
  unfold eqP pd
  simp [SeqAt.shaped, PyData.canLay0, PyData.depth, PyData.eqv]
  cases i <;> cases j <;> simp
@[simp] theorem oEq_b (i j : Bool) : oEq (.bl i) (.bl j) = some (.val (.bl (decide (i = j)))) := oEq_ap (eqP_bl i j)
@[simp] theorem oNe_b (i j : Bool) : oNe (.bl i) (.bl j) = some (.val (.bl (!decide (i = j)))) := oNe_ap (eqP_bl i j)
@[simp] theorem oEq_l0 (i : List Int) : oEq (.lst (i.map .int)) (.lst []) = some (.val (.bl (decide (i = [])))) := oEq_ap (eqP_lsts i [])
@[simp] theorem oNe_l0 (i : List Int) : oNe (.lst (i.map .int)) (.lst []) = some (.val (.bl (!decide (i = [])))) := oNe_ap (eqP_lsts i [])
@[simp] theorem oEq_l00 : oEq (.lst []) (.lst []) = some (.val (.bl true)) := oEq_ap (eqP_lsts [] [])
@[simp] theorem oNe_l00 : oNe (.lst []) (.lst []) = some (.val (.bl false)) := oNe_ap (eqP_lsts [] [])
@[simp] theorem oEq_t00 : oEq (.tup []) (.tup []) = some (.val (.bl true)) := oEq_ap (eqP_tups [] [])
theorem oEq_t3 (a b c a' b' c' : Int) : oEq (.tup [.int a, .int b, .int c]) (.tup [.int a', .int b', .int c']) = some (.val (.bl (decide ([a, b, c] = [a', b', c'])))) := oEq_ap (eqP_tups [a, b, c] [a', b', c'])
theorem oEq_t2 (a b a' b' : Int) : oEq (.tup [.int a, .int b]) (.tup [.int a', .int b']) = some (.val (.bl (decide ([a, b] = [a', b'])))) := oEq_ap (eqP_tups [a, b] [a', b'])
/-! ### short lists, item by item -/
@[simp] theorem wR_lcL_nil (tg : GSem) (t : TSem) (f : ESem) (vs : List Nat) (acc : List PV) (Γ : Env) (Q : List PV → Env → Prop) : wR (lcL tg t f vs [] acc Γ) Q = Q acc Γ := by with_unfolding_all rfl
@[simp] theorem wR_lcL_cons (tg : GSem) (t : TSem) (f : ESem) (vs : List Nat) (p : PV) (ps acc : List PV) (Γ : Env) (Q : List PV → Env → Prop) : wR (lcL tg t f vs (p :: ps) acc Γ) Q = wO (tg p (wipeE Γ vs)) fun Γ1 => wR (t Γ1) fun b Γ2 =>
    ((b = true → wR (eZ f Γ2) fun d Γ3 => wO (pval d) fun q => acc.length < sizeLine ∧ wR (lcL tg t f vs ps (acc ++ [q]) (wipeE Γ3 vs)) Q) ∧ (b = false → wR (lcL tg t f vs ps acc (wipeE Γ2 vs)) Q)) := by
  show wR (match tg p (wipeE Γ vs) with | none => .no | some Γ1 => match t Γ1 with | .ok true Γ2 => (match eZ f Γ2 with | .ok (.val q) Γ3 => if acc.length < sizeLine then lcL tg t f vs ps (acc ++ [q]) (wipeE Γ3 vs) else .no | _ => .no) | .ok false Γ2 => lcL tg t f vs ps acc (wipeE Γ2 vs) | _ => .no) Q = _
  cases tg p (wipeE Γ vs) with
  | none => with_unfolding_all rfl
  | some Γ1 =>
    simp only [wO_some]
    cases t Γ1 with
    | ex e Γ2 => with_unfolding_all rfl
    | no => with_unfolding_all rfl
    | ok b Γ2 =>
      cases b with
      | false => simp
      | true =>
        simp only [wR_ok, true_implies, true_and]
        cases e : eZ f Γ2 with
        | ex e Γ3 => simp [wR]
        | no => simp [wR]
        | ok d Γ3 =>
          cases d with
          | val q => by_cases h : acc.length < sizeLine <;> simp [h, pval]
          | tmp o => simp [wR, pval]
          | plc j => simp [wR, pval]
@[simp] theorem wL_loop_nil (tg : GSem) (kl : List Nat) (b : SSem) (Γ : Env) (Q : Fl → Prop) : wL (loopL tg kl b [] Γ) Q = Q (.nx Γ) := by with_unfolding_all rfl
@[simp] theorem wL_loop_cons (tg : GSem) (kl : List Nat) (b : SSem) (p : PV) (ps : List PV) (Γ : Env) (Q : Fl → Prop) : wL (loopL tg kl b (p :: ps) Γ) Q = wO (tg p Γ) fun Γ1 => wL (b Γ1) (lS (fun Γ2 => wL (loopL tg kl b ps (kill kl Γ2)) Q) (fun Γ2 => Q (.nx (kill kl Γ2))) Q) := by
  show wL (match tg p Γ with | none => .no | some Γ1 => match b Γ1 with | .nx Γ2 => loopL tg kl b ps (kill kl Γ2) | .ct Γ2 => loopL tg kl b ps (kill kl Γ2) | .bk Γ2 => .nx (kill kl Γ2) | r => r) Q = _
  cases tg p Γ with
  | none => with_unfolding_all rfl
  | some Γ1 =>
    simp only [wO_some]
    cases b Γ1 <;> with_unfolding_all rfl
@[simp] theorem szl0 : (0 < sizeLine) = True := eq_true (lt_sz (by decide))
@[simp] theorem szl1 : (1 < sizeLine) = True := eq_true (lt_sz (by decide))
@[simp] theorem szl2 : (2 < sizeLine) = True := eq_true (lt_sz (by decide))
@[simp] theorem szl3 : (3 < sizeLine) = True := eq_true (lt_sz (by decide))
@[simp] theorem szl4 : (4 < sizeLine) = True := eq_true (lt_sz (by decide))
@[simp] theorem szl5 : (5 < sizeLine) = True := eq_true (lt_sz (by decide))
@[simp] theorem szl6 : (6 < sizeLine) = True := eq_true (lt_sz (by decide))
@[simp] theorem szl7 : (7 < sizeLine) = True := eq_true (lt_sz (by decide))
@[simp] theorem szl8 : (8 < sizeLine) = True := eq_true (lt_sz (by decide))
@[simp] theorem bAll_l (ps : List PV) : bAll (.lst ps) = (blsL ps).map fun bs => .val (.bl (bs.all id)) := rfl
@[simp] theorem bAny_l (ps : List PV) : bAny (.lst ps) = (blsL ps).map fun bs => .val (.bl (bs.any id)) := rfl
@[simp] theorem blsL_nil : blsL [] = some [] := rfl
@[simp] theorem blsL_cons (b : Bool) (r : List PV) : blsL (.bl b :: r) = (blsL r).map (b :: ·) := rfl
@[simp] theorem intsL_nil : intsL [] = some [] := rfl
@[simp] theorem intsL_cons (i : Int) (r : List PV) : intsL (.int i :: r) = (intsL r).map (i :: ·) := rfl
/-- one statement alone -/
theorem w_seq {a b : SSem} {Γ : Env} {Q : Fl → Prop} : wL (seqS a b Γ) Q = wL (a Γ) (kS b Q) := by rw [seqS_ap, wL_seq]
end Mv
end S39_

section S40_
set_option Elab.async false
set_option linter.all false
set_option maxRecDepth 100000
set_option exponentiation.threshold 2000
namespace Mv
open PySem PySem.Spec PyProof.Rows L2
/-! ### data that can be told: n bounds its text, d its depth -/
structure RepD (x : PyData) (n d : Nat) : Prop where
  lay : x.canLay0 = true
  shw : x.showable = true
  dep : x.depth ≤ d
  len : x.shown.length ≤ n
  str : PyData.strOk x.shown = true
  eqv : x.eqv x = true
def Rep (p : PV) (n d : Nat) : Prop := ∃ x, pd p = some x ∧ RepD x n d
theorem Rep.mono {p : PV} {n d n' d' : Nat} (h : Rep p n d) (h1 : n ≤ n') (h2 : d ≤ d') : Rep p n' d' := by
  obtain ⟨x, e, r⟩ := h
  exact ⟨x, e, r.lay, r.shw, Nat.le_trans r.dep h2, Nat.le_trans r.len h1, r.str, r.eqv⟩
theorem Rep.non : Rep .non 5 0 := ⟨.none, by unfold pd; rfl, by unfold PyData.canLay0; rfl, by unfold PyData.showable; rfl, by unfold PyData.depth; exact Nat.le_refl 0, by unfold PyData.shown; decide, by unfold PyData.shown; exact strOk_of _, by unfold PyData.eqv; rfl⟩
theorem Rep.bl (b : Bool) : Rep (.bl b) 5 0 := ⟨.bool b, by unfold pd; rfl, by unfold PyData.canLay0; rfl, by unfold PyData.showable; rfl, by unfold PyData.depth; exact Nat.le_refl 0, by unfold PyData.shown; cases b <;> decide, by unfold PyData.shown; cases b <;> exact strOk_of _, by unfold PyData.eqv; simp⟩
theorem Rep.int {k : Nat} (hk : 0 < k) (hk2 : k ≤ 500) {i : Int} (h : i.natAbs < 10 ^ k) : Rep (.int i) (k + 1) 0 := by
  refine ⟨.int i, by unfold pd; rfl, by unfold PyData.canLay0; rfl, ?_, by unfold PyData.depth; exact Nat.le_refl 0, ?_, by unfold PyData.shown; exact strOk_of _, by unfold PyData.eqv; simp⟩
  · have := log2_lt h hk2
    unfold PyData.showable
    exact decide_eq_true this
  · have := int_text_length_le10 hk h
    unfold PyData.shown
    rw [PySem.ofString_length]; exact this
theorem reps : ∀ {ps : List PV} {n d : Nat}, (∀ p ∈ ps, Rep p n d) → ∃ xs, pds ps = some xs ∧ xs.length = ps.length ∧ ∀ x ∈ xs, RepD x n d
  | [], n, d, _ => ⟨[], by unfold pds; rfl, rfl, fun x h => by cases h⟩
  | p :: ps, n, d, h => by
    obtain ⟨x, e, r⟩ := h p List.mem_cons_self
    obtain ⟨xs, es, hl, rs⟩ := reps fun q hq => h q (List.mem_cons_of_mem _ hq)
    refine ⟨x :: xs, by unfold pds; rw [e, es], by simp [hl], fun y hy => ?_⟩
    rcases List.mem_cons.mp hy with rfl | hy
    · exact r
    · exact rs y hy
theorem lay_all : ∀ {xs : List PyData} {n d : Nat}, (∀ x ∈ xs, RepD x n d) → PyData.canLayAll0 xs = true ∧ PyData.showableAll xs = true ∧ PyData.depthAll xs ≤ d ∧ PyData.eqvAll xs xs = true ∧ (PyData.shownAll xs).length = xs.length ∧ (∀ t ∈ PyData.shownAll xs, t.length ≤ n ∧ PyData.strOk t = true)
  | [], n, d, _ => ⟨by unfold PyData.canLayAll0; rfl, by unfold PyData.showableAll; rfl, by unfold PyData.depthAll; exact Nat.zero_le _, by unfold PyData.eqvAll; rfl, by unfold PyData.shownAll; rfl, fun t h => by unfold PyData.shownAll at h; cases h⟩
  | x :: xs, n, d, h => by
    have r := h x List.mem_cons_self
    obtain ⟨h1, h2, h3, h4, h5, h6⟩ := lay_all (xs := xs) fun y hy => h y (List.mem_cons_of_mem _ hy)
    refine ⟨?_, ?_, ?_, ?_, ?_, fun t ht => ?_⟩
    · unfold PyData.canLayAll0; rw [r.lay, h1]; rfl
    · unfold PyData.showableAll; rw [r.shw, h2]; rfl
    · unfold PyData.depthAll; exact Nat.max_le.mpr ⟨r.dep, h3⟩
    · unfold PyData.eqvAll; rw [r.eqv, h4]; rfl
    · unfold PyData.shownAll; simp [h5]
    · unfold PyData.shownAll at ht
      rcases List.mem_cons.mp ht with rfl | ht
      · exact ⟨r.len, r.str⟩
      · exact h6 t ht
theorem piled_le {n : Nat} : ∀ ts : List Str, (∀ t ∈ ts, t.length ≤ n) → piled ts ≤ ts.length * (n + 2)
  | [], _ => by rw [piled_nil]; exact Nat.zero_le _
  | t :: ts, h => by
    rw [piled_cons, List.length_cons, Nat.succ_mul]
    have := h t List.mem_cons_self
    have := piled_le ts fun u hu => h u (List.mem_cons_of_mem _ hu)
    omega
theorem strOk_join : ∀ ts : List Str, (∀ t ∈ ts, PyData.strOk t = true) → PyData.strOk (Str.join ", " ts) = true
  | [], _ => by decide +kernel
  | [x], h => h x List.mem_cons_self
  | x :: y :: r, h => strOk_app (strOk_app (h x List.mem_cons_self) (strOk_of _)) (strOk_join (y :: r) fun t ht => h t (List.mem_cons_of_mem _ ht))
theorem Rep.lst {ps : List PV} {n d : Nat} (h : ∀ p ∈ ps, Rep p n d) : Rep (.lst ps) (2 + ps.length * (n + 2)) (d + 1) := by
  obtain ⟨xs, es, hl, rs⟩ := reps h
  obtain ⟨h1, h2, h3, h4, h5, h6⟩ := lay_all rs
  refine ⟨.list xs, by unfold pd; rw [es]; rfl, by unfold PyData.canLay0; exact h1, by unfold PyData.showable; exact h2, by unfold PyData.depth; omega, ?_, ?_, by unfold PyData.eqv; exact h4⟩
  · unfold PyData.shown listText
    rw [strLen_append]
    have a := textFrom_len_le (PyData.shownAll xs) 0 "["
    have b := piled_le (PyData.shownAll xs) fun t ht => (h6 t ht).1
    rw [h5, hl] at b
    have e1 : ((("[" : String) : Str)).length = 1 := rfl
    have e2 : ((("]" : String) : Str)).length = 1 := rfl
    have e3 : piled (PyData.shownAll xs) = ((PyData.shownAll xs).map (·.length)).sum + 2 * (PyData.shownAll xs).length := by
      unfold piled
      generalize PyData.shownAll xs = ts
      induction ts with
      | nil => rfl
      | cons t ts ih => rw [List.map_cons, List.sum_cons, ih, List.map_cons, List.sum_cons, List.length_cons]; omega
    rw [e1] at a
    rw [e2]
    omega
  · unfold PyData.shown listText
    exact strOk_app (strOk_from _ _ _ (strOk_of _) fun t ht => (h6 t ht).2) (strOk_of _)
theorem Rep.tup {ps : List PV} {n d : Nat} (h : ∀ p ∈ ps, Rep p n d) : Rep (.tup ps) (3 + ps.length * (n + 2)) (d + 1) := by
  obtain ⟨xs, es, hl, rs⟩ := reps h
  obtain ⟨h1, h2, h3, h4, h5, h6⟩ := lay_all rs
  refine ⟨.tuple xs, by unfold pd; rw [es]; rfl, by unfold PyData.canLay0; exact h1, by unfold PyData.showable; exact h2, by unfold PyData.depth; omega, ?_, ?_, by unfold PyData.eqv; exact h4⟩
  · unfold PyData.shown tupleText
    rw [strLen_append, strLen_append]
    have b := piled_le (PyData.shownAll xs) fun t ht => (h6 t ht).1
    rw [h5, hl] at b
    have e1 : ((("(" : String) : Str)).length = 1 := rfl
    have e2 : (((if ((PyData.shownAll xs).length == 1) = true then ",)" else ")" : String) : Str)).length ≤ 2 := by split <;> decide
    have e3 : (Str.join ", " (PyData.shownAll xs)).length ≤ piled (PyData.shownAll xs) := by
      by_cases c : PyData.shownAll xs = []
      · rw [c]; decide
      · have := join_length_add _ c; omega
    rw [e1]
    omega
  · unfold PyData.shown tupleText
    exact strOk_app (strOk_app (strOk_of _) (strOk_join _ fun t ht => (h6 t ht).2)) (strOk_of _)
theorem Rep.repr {p : PV} {n d : Nat} (h : Rep p n d) (hn : n ≤ 16000000) (hd : d ≤ 64) : ∃ x, reprP p = some x ∧ PyData.strOk x = true := by
  obtain ⟨x, e, r⟩ := h
  refine ⟨x.shown, ?_, r.str⟩
  have e5 : (x.canLay0 && x.showable && decide (x.depth ≤ 64) && decide (x.shown.length ≤ sizeLine)) = true := by
    simp only [Bool.and_eq_true, decide_eq_true_eq]
    exact ⟨⟨⟨r.lay, r.shw⟩, Nat.le_trans r.dep hd⟩, le_sz (Nat.le_trans r.len hn)⟩
  unfold reprP
  rw [e]
  show (if _ then _ else _) = _
  rw [if_pos e5]
theorem Rep.eq {p : PV} {n d : Nat} (h : Rep p n d) (hd : d ≤ 60) : eqP p p = some true := by
  obtain ⟨x, e, r⟩ := h
  unfold eqP
  rw [e]
  have : SeqAt.shaped x = true := by
    unfold SeqAt.shaped
    simp [r.lay]
    have := r.dep
    omega
  simp [this, r.eqv]
theorem oEq_sv {x : Str} (h : PyData.strOk x = true) : oEq (.str x) (.str x) = some (.val (.bl true)) := oEq_ap ((eqP_str x x h h).trans (by simp))
theorem oNe_sv {x : Str} (h : PyData.strOk x = true) : oNe (.str x) (.str x) = some (.val (.bl false)) := oNe_ap (b := true) ((eqP_str x x h h).trans (by simp))
theorem oEq_self {p : PV} {n d : Nat} (h : Rep p n d) (hd : d ≤ 60) : oEq p p = some (.val (.bl true)) := oEq_ap (h.eq hd)
theorem oNe_self {p : PV} {n d : Nat} (h : Rep p n d) (hd : d ≤ 60) : oNe p p = some (.val (.bl false)) := oNe_ap (b := true) (h.eq hd)
@[simp] theorem oMax2_l (ps : List PV) : oMax2 [.lst ps] = bMaxL (.lst ps) := rfl
@[simp] theorem oMin2_l (ps : List PV) : oMin2 [.lst ps] = bMinL (.lst ps) := rfl
@[simp] theorem bMaxL_l (ps : List PV) : bMaxL (.lst ps) = (intsL ps).bind fun ns => if ns.isEmpty then none else some (.val (.int (imax ns))) := rfl
@[simp] theorem bMinL_l (ps : List PV) : bMinL (.lst ps) = (intsL ps).bind fun ns => if ns.isEmpty then none else some (.val (.int (imin ns))) := rfl
@[simp] theorem imax_2 (a b : Int) : imax [a, b] = max a b := rfl
@[simp] theorem imin_2 (a b : Int) : imin [a, b] = min a b := rfl
@[simp] theorem atI_0 {α : Type} (x : α) (xs : List α) : L2.atI (x :: xs) 0 = some x := at_nat (by decide) rfl
@[simp] theorem atI_1 {α : Type} (x y : α) (xs : List α) : L2.atI (x :: y :: xs) 1 = some y := at_nat (by decide) rfl
@[simp] theorem atI_2 {α : Type} (x y z : α) (xs : List α) : L2.atI (x :: y :: z :: xs) 2 = some z := at_nat (by decide) rfl
/-! ### values without lists in them -/
@[simp] theorem flatS_sh (p : PV) : flatS (.sh p) = flat p := rfl
@[simp] theorem flatS_ow (o : OV) : flatS (.ow o) = flatO o := rfl
@[simp] theorem flat_non : flat .non = true := by unfold flat; rfl
@[simp] theorem flat_bl (b : Bool) : flat (.bl b) = true := by unfold flat; rfl
@[simp] theorem flat_int (i : Int) : flat (.int i) = true := by unfold flat; rfl
@[simp] theorem flat_str (x : Str) : flat (.str x) = true := by unfold flat; rfl
@[simp] theorem flat_tup (ps : List PV) : flat (.tup ps) = flatA ps := by rw [flat]
@[simp] theorem flat_ins (c : Str) (ns : List Str) (ps : List PV) : flat (.ins c ns ps) = flatA ps := by rw [flat]
@[simp] theorem flatA_nil : flatA [] = true := by rw [flatA]
@[simp] theorem flatA_cons (p : PV) (ps : List PV) : flatA (p :: ps) = (flat p && flatA ps) := by rw [flatA]
@[simp] theorem flatA_ints (ns : List Int) : flatA (ns.map PV.int) = true := by
  induction ns with
  | nil => rfl
  | cons n ns ih => rw [List.map_cons, flatA_cons, ih]; rfl
@[simp] theorem flatO_lst (ps : List PV) : flatO (.lst ps) = flatA ps := rfl
@[simp] theorem flatO_ins (c : Str) (ns : List Str) (ps : List PV) : flatO (.ins c ns ps) = flatA ps := rfl
end Mv
end S40_

section S41_
set_option Elab.async false
set_option linter.all false
set_option maxRecDepth 100000
namespace Mv
open PySem PySem.Spec PyProof.Rows L2
/-! ### displays with stars -/
@[simp] theorem seqP_l (ps : List PV) : seqP (.lst ps) = some ps := rfl
@[simp] theorem seqP_t (ps : List PV) : seqP (.tup ps) = some ps := rfl
@[simp] theorem wR_aSt (f : ESem) (a : ASem) (Γ : Env) (Q : List Opd → Env → Prop) : wR (aSt f a Γ) Q = wR (f Γ) fun d Γ1 => wO (vw Γ1 d) fun p => wO (seqP p) fun ps => wR (a Γ1) fun ds Γ2 => Q (vl ps ++ ds) Γ2 := by
  unfold aSt
  rw [wR_bind]
  congr
  funext d Γ1
  unfold starO
  cases vw Γ1 d with
  | none => simp
  | some p =>
    show wR (match seqP p with | some ps => _ | none => _) Q = _
    cases hs : seqP p <;> simp [hs]
@[simp] theorem wO_valsX (ps : List PV) (ds : List Opd) (Q : List PV → Prop) : wO (valsO (vl ps ++ ds)) Q = wO (valsO ds) fun l => Q (ps ++ l) := by rw [valsO_app, wO_map]
@[simp] theorem wO_valsX0 (ps : List PV) (Q : List PV → Prop) : wO (valsO (vl ps)) Q = Q ps := by
  have := wO_valsX ps [] Q
  rw [List.append_nil, wO_vals_nil, List.append_nil] at this
  exact this
/-! ### sums -/
@[simp] theorem oSum_l (ns : List Int) : oSum [.lst (ns.map .int)] = some (.val (.int ns.sum)) := by
  have : bSumL (.lst (ns.map .int)) = some (.val (.int ns.sum)) := bSumL_i ns
  unfold oSum orB op1
  simp [this]
@[simp] theorem oSum_t (ns : List Int) : oSum [.tup (ns.map .int)] = some (.val (.int ns.sum)) := by
  have : bSumT (.tup (ns.map .int)) = some (.val (.int ns.sum)) := by unfold bSumT; simp
  have h2 : bSumL (.tup (ns.map .int)) = none := rfl
  unfold oSum orB op1
  simp [this, h2]
@[simp] theorem oIsB_b (a b : Bool) : oIsB (.bl a) (.bl b) = some (.val (.bl (decide (a = b)))) := rfl
@[simp] theorem oNotB_b (a b : Bool) : oNotB (.bl a) (.bl b) = some (.val (.bl (!decide (a = b)))) := rfl
end Mv
end S41_

section S42_
set_option Elab.async false
set_option linter.all false
set_option maxRecDepth 100000
namespace Mv
open PySem PySem.Spec PyProof.Rows L2
/-! ### x.extend(y) -/
def exL : Slot → Option (List PV)
  | .ow (.lst ps) => some ps
  | _ => none
@[simp] theorem exL_l (ps : List PV) : exL (.ow (.lst ps)) = some ps := rfl
def exD : Opd → Option (List PV)
  | .tmp (.lst qs) => some qs
  | _ => none
@[simp] theorem exD_l (qs : List PV) : exD (.tmp (.lst qs)) = some qs := rfl
@[simp] theorem wR_ext (j : Nat) (f : ESem) (Γ : Env) (Q : Opd → Env → Prop) : wR (eExt j f Γ) Q = wO Γ[j]? fun s0 => wO (exL s0) fun _ => wR (f Γ) fun d Γ1 => wO (exD d) fun qs => wO Γ1[j]? fun s => wO (exL s) fun ps => ps.length + qs.length ≤ sizeLine ∧ Q (.val .non) (Γ1.set j (.ow (.lst (ps ++ qs)))) := by
  unfold eExt
  cases e : Γ[j]? with
  | none => simp
  | some s0 =>
    cases s0 with
    | un => simp [exL]
    | sh p => simp [exL]
    | ow o =>
      cases o with
      | lst p0 =>
        simp only [isLst, if_true, wO_some, exL_l]
        rw [aS_cons_ap]
        simp only [wR_bind, aS_nil_ap, wR_ok]
        congr
        funext d Γ1
        cases d with
        | val p => simp [exD]
        | plc i => simp [exD]
        | tmp o1 =>
          cases o1 with
          | lst qs =>
            simp only [exD_l, wO_some]
            unfold extO
            cases e2 : Γ1[j]? with
            | none => simp
            | some s =>
              cases s with
              | un => simp [exL]
              | sh p => simp [exL]
              | ow o2 =>
                cases o2 with
                | lst ps => by_cases hz : ps.length + qs.length ≤ sizeLine <;> simp [hz]
                | _ => simp [exL]
          | _ => simp [exD]
      | _ => simp [exL, isLst]
end Mv
end S42_

section S43_
set_option Elab.async false
set_option linter.all false
set_option maxRecDepth 100000
namespace Mv
open PySem PySem.Spec PyProof.Rows L2
@[simp] theorem wR_iRg3 (a : ASem) (Γ : Env) (Q : List PV → Env → Prop) : wR (iRg3 a Γ) Q = wR (a Γ) fun ds Γ' => wO (vws Γ' ds) fun ps => wO (rg3V ps) fun l => Q l Γ' := by
  unfold iRg3
  rw [wR_bind]
  congr 1; funext ds Γ'
  cases vws Γ' ds with
  | none => simp
  | some ps => cases h : rg3V ps <;> simp [h]
@[simp] theorem rg3V_i (i j c : Int) (Q : List PV → Prop) : wO (rg3V [.int i, .int j, .int c]) Q = (rg3Ok i j c = true ∧ Q (rgL3 i j c)) := by
  show wO (if rg3Ok i j c = true ∧ [PV.int i, PV.int j, PV.int c].length = 3 then some (rgL3 i j c) else none) Q = _
  by_cases h : rg3Ok i j c = true <;> simp [h]
/-- steps up, within bounds -/
theorem rg3Ok_up {i j c : Int} (c0 : 0 < c) (c1 : c < 1000000) (i0 : -10000000 ≤ i) (i1 : i ≤ 10000000) (j0 : -10000000 ≤ j) (j1 : j ≤ 10000000) : rg3Ok i j c = true := by
  have hs : 0 ≤ Builtin.Range.rangeSize i j c ∧ Builtin.Range.rangeSize i j c ≤ 20000000 := by
    unfold Builtin.Range.rangeSize
    rw [if_pos c0]
    split
    · have h0 := Int.ediv_nonneg (show 0 ≤ j - i - 1 by omega) (Int.le_of_lt c0)
      have h1 : (j - i - 1) / c ≤ j - i - 1 := Int.ediv_le_self _ (by omega)
      constructor
      · omega
      · by_cases h2 : j - i - 1 ≤ 19999999
        · omega
        · omega
    · omega
  obtain ⟨h0, h1⟩ := hs
  have : Builtin.Range.small i j c = true := by
    unfold Builtin.Range.small
    rw [if_pos c0]
    generalize Builtin.Range.rangeSize i j c = n at *
    simp only [Builtin.Range.rangeFitsLong, Bool.and_eq_true, Bool.or_eq_true, decide_eq_true_eq, beq_iff_eq]
    omega
  unfold rg3Ok
  simp only [Bool.and_eq_true, decide_eq_true_eq]
  exact ⟨⟨⟨by omega, by omega⟩, this⟩, h0⟩
theorem rgN_up {i j c : Int} (c0 : 0 < c) (k : Nat) : k < rgN i j c ↔ i + k * c < j := by
  unfold rgN Builtin.Range.rangeSize
  rw [if_pos c0]
  split
  · rename_i h
    have h0 := Int.ediv_nonneg (show 0 ≤ j - i - 1 by omega) (Int.le_of_lt c0)
    have e : (k < ((j - i - 1) / c + 1).toNat) ↔ (k : Int) ≤ (j - i - 1) / c := by omega
    rw [e, Int.le_ediv_iff_mul_le c0]
    omega
  · rename_i h
    have : 0 ≤ (k : Int) * c := Int.mul_nonneg (by omega) (Int.le_of_lt c0)
    constructor <;> intro <;> omega
end Mv
end S43_

section S44_
set_option Elab.async false
set_option linter.all false
set_option maxRecDepth 100000
namespace Mv
open PySem PySem.Spec PyProof.Rows L2
@[simp] theorem wR_eLR3 (a : ASem) (Γ : Env) (Q : Opd → Env → Prop) : wR (eLR3 a Γ) Q = wR (a Γ) fun ds Γ' => wO (vws Γ' ds) fun ps => wO (rg3V ps) fun l => l.length ≤ 2 ^ 24 ∧ Q (.tmp (.lst l)) Γ' := by
  unfold eLR3
  rw [wR_bind]
  congr 1; funext ds Γ'
  cases vws Γ' ds with
  | none => simp
  | some ps =>
    cases h : rg3V ps with
    | none => simp [h]
    | some l => by_cases hl : l.length ≤ 2 ^ 24 <;> simp [h, hl]
end Mv
end S44_

section S45_
set_option Elab.async false
set_option linter.all false
set_option maxRecDepth 100000
namespace Mv
open PySem PySem.Spec PyProof.Rows L2
@[simp] theorem oMax1_l (ps : List PV) : oMax1 [.lst ps] = bMaxL (.lst ps) := by
  unfold oMax1 orB op1
  cases h : bMaxL (.lst ps) with
  | none => simp [h]; rfl
  | some z => simp [h]
@[simp] theorem oMin1_l (ps : List PV) : oMin1 [.lst ps] = bMinL (.lst ps) := by
  unfold oMin1 orB op1
  cases h : bMinL (.lst ps) with
  | none => simp [h]; rfl
  | some z => simp [h]
@[simp] theorem oMax1_t (ps : List PV) : oMax1 [.tup ps] = (intsL ps).bind fun ns => if ns.isEmpty then none else some (.val (.int (imax ns))) := rfl
@[simp] theorem oMin1_t (ps : List PV) : oMin1 [.tup ps] = (intsL ps).bind fun ns => if ns.isEmpty then none else some (.val (.int (imin ns))) := rfl
end Mv
end S45_

section S46_
set_option Elab.async false
set_option linter.all false
set_option maxRecDepth 100000
namespace Mv
open PySem PySem.Spec PyProof.Rows L2
@[simp] theorem pth_b (b : Bool) : pth (.bl b) = some b := rfl
@[simp] theorem pth_i (i : Int) : pth (.int i) = some (i != 0) := rfl
@[simp] theorem pth_n : pth .non = some false := rfl
@[simp] theorem wR_eOrG (f g : ESem) (Γ : Env) (Q : Opd → Env → Prop) : wR (eOrG f g Γ) Q = wR (f Γ) fun d Γ' => wO (vw Γ' d) fun p => wO (pth p) fun b => wR (if b then .ok (.val p) Γ' else g Γ') Q := by
  unfold eOrG
  rw [wR_bind]
  congr 1; funext d Γ'
  cases vw Γ' d with
  | none => simp
  | some p => cases h : pth p <;> simp [h]
end Mv
end S46_

section S47_
set_option Elab.async false
set_option linter.all false
set_option maxRecDepth 100000
namespace Mv
open PySem PySem.Spec PyProof.Rows L2
section
variable {Γ : Env}
@[simp] theorem wR_sl3b (f : ESem) (l h k : OSem) (Q : Opd → Env → Prop) : wR (eSl3b f l h k Γ) Q = wR (f Γ) fun d Γ1 => wR (l Γ1) fun lo Γ2 => wR (h Γ2) fun hi Γ3 => wR (k Γ3) fun st Γ4 => wO (vw Γ4 d) fun p => wO (sl3T p lo hi st) fun r => Q r.opd Γ4 := by
  unfold eSl3b
  simp only [wR_bind]
  congr 1; funext d Γ1
  unfold sl3m0
  simp only [wR_bind]
  congr 1; funext lo Γ2
  unfold sl3m1
  simp only [wR_bind]
  congr 1; funext hi Γ3
  unfold sl3m2
  simp only [wR_bind]
  congr 1; funext st Γ4
  unfold sl3m3
  cases vw Γ4 d with
  | none => with_unfolding_all rfl
  | some p => simp only [Option.bind_some, wO_some]; cases sl3T p lo hi st <;> with_unfolding_all rfl
/-! calls -/
end
theorem slP_rev {α : Type} (xs : List α) : slP xs none none (some (-1)) = xs.reverse := by
  unfold slP slIx
  have e : sliceRange (sliceBounds none none (some (-1)) xs.length).1 (sliceBounds none none (some (-1)) xs.length).2.1 (sliceBounds none none (some (-1)) xs.length).2.2 = (List.range xs.length).map fun k => xs.length - 1 - k := by
    show sliceRange ((xs.length : Int) - 1) (-1) (-1) = _
    unfold sliceRange
    simp only [show ¬ ((-1 : Int) > 0) by decide, if_false]
    have hc : (if (xs.length : Int) - 1 > -1 then ((xs.length : Int) - 1 - -1 - -1 - 1) / (- -1) else 0).toNat = xs.length := by
      split
      · rw [show (- -1 : Int) = 1 from rfl, Int.ediv_one]; omega
      · omega
    rw [hc]
    refine List.map_congr_left fun k hk => ?_
    have := List.mem_range.mp hk
    omega
  rw [e, List.filterMap_map]
  have h : ∀ k ∈ List.range xs.length, ((fun i => xs[i]?) ∘ fun k => xs.length - 1 - k) k = xs.reverse[k]? := fun k hk => by
    have := List.mem_range.mp hk
    rw [List.getElem?_reverse this]; rfl
  have h2 : (List.range xs.length).filterMap ((fun i => xs[i]?) ∘ fun k => xs.length - 1 - k) = (List.range xs.length).filterMap fun k => xs.reverse[k]? := by
    clear e
    generalize List.range xs.length = L at *
    induction L with
    | nil => rfl
    | cons x L ih => rw [List.filterMap_cons, List.filterMap_cons, h x List.mem_cons_self, ih fun k hk => h k (List.mem_cons_of_mem _ hk)]
  rw [h2]
  have h3 : ∀ (ys : List α) (n : Nat), ys.length = n → (List.range n).filterMap (fun k => ys[k]?) = ys := fun ys n hn => by
    subst hn
    apply List.ext_getElem?
    intro i
    have h5 : (List.range ys.length).filterMap (fun k => ys[k]?) = ys := by
      induction ys with
      | nil => rfl
      | cons y ys ih =>
        rw [List.length_cons, List.range_succ_eq_map, List.filterMap_cons]
        show y :: List.filterMap _ _ = _
        rw [List.filterMap_map]
        congr 1
    rw [h5]
  exact h3 _ _ (by simp)
@[simp] theorem sl3T_l (ps : List PV) : sl3T (.lst ps) none none (some (-1)) = some (.tmp (.lst ps.reverse)) := by
  show (if (some (-1) : Option Int) = some 0 then none else some (Rv.tmp (.lst (slP ps none none (some (-1)))))) = _
  rw [if_neg (by decide), slP_rev]
@[simp] theorem sl3T_t (ps : List PV) : sl3T (.tup ps) none none (some (-1)) = some (.val (.tup ps.reverse)) := rfl
end Mv
end S47_

section S48_
set_option Elab.async false
set_option linter.all false
set_option maxRecDepth 100000
namespace Mv
open PySem PySem.Spec PyProof.Rows L2
/-- a dict with numbers as keys -/
def dV (d : List (Int × PV)) : OV := .dK (d.map fun kv => .inl kv.1) (d.map (·.2))
def dP (d : List (Int × PV)) : PV := .dK (d.map fun kv => .inl kv.1) (d.map (·.2))
@[simp] theorem dV_pv (d : List (Int × PV)) : OV.pv (dV d) = dP d := rfl
def dget (d : List (Int × PV)) (k : Int) : Option PV := (d.find? fun kv => kv.1 == k).map (·.2)
def dset (d : List (Int × PV)) (k : Int) (p : PV) : List (Int × PV) := if (dget d k).isSome then d.map (fun kv => if kv.1 = k then (kv.1, p) else kv) else d ++ [(k, p)]
theorem dAt_d (d : List (Int × PV)) (k : Int) : dAt (d.map fun kv => (.inl kv.1 : Key)) (d.map (·.2)) (.inl k) = dget d k := by
  induction d with
  | nil => rfl
  | cons x d ih =>
    rw [List.map_cons, List.map_cons]
    unfold dAt dget
    rw [List.find?_cons]
    by_cases c : x.1 = k
    · rw [if_pos (by rw [c]), show (x.1 == k) = true by simp [c]]; rfl
    · rw [if_neg (fun e => c (Sum.inl.inj e)), show (x.1 == k) = false by simp [c], ih]; rfl
theorem dRep_d (d : List (Int × PV)) (k : Int) (p : PV) : dRep (d.map fun kv => (.inl kv.1 : Key)) (d.map (·.2)) (.inl k) p = (d.map fun kv => if kv.1 = k then (kv.1, p) else kv).map (·.2) := by
  induction d with
  | nil => rfl
  | cons x d ih =>
    rw [List.map_cons, List.map_cons, List.map_cons, List.map_cons]
    unfold dRep
    rw [ih]
    congr 1
    by_cases c : x.1 = k
    · rw [if_pos (by rw [c]), if_pos c]
    · rw [if_neg (fun e => c (Sum.inl.inj e)), if_neg c]
@[simp] theorem ixD_d (d : List (Int × PV)) (k : Int) : ixD (dP d) (.int k) = (dget d k).map Rv.val := by
  show ((some (Sum.inl k : Key)).bind fun k => (dAt _ _ k).map Rv.val) = _
  rw [Option.bind_some, dAt_d]
@[simp] theorem inD_d (d : List (Int × PV)) (k : Int) : inD (.int k) (dP d) = some (dget d k).isSome := by
  show (some (Sum.inl k : Key)).map (fun k => (dAt _ _ k).isSome) = _
  rw [Option.map_some, dAt_d]
@[simp] theorem oInD_d (d : List (Int × PV)) (k : Int) : oInD (.int k) (dP d) = some (.val (.bl (dget d k).isSome)) := by unfold oInD; rw [inD_d]; rfl
@[simp] theorem oNinD_d (d : List (Int × PV)) (k : Int) : oNinD (.int k) (dP d) = some (.val (.bl (!(dget d k).isSome))) := by unfold oNinD; rw [inD_d]; rfl
@[simp] theorem stD_d (d : List (Int × PV)) (k : Int) (p : PV) : stD (dV d) (.int k) p = if d.length < sizeLine then some (dV (dset d k p)) else none := by
  show ((some (Sum.inl k : Key)).bind fun k => if (d.map fun kv => (Sum.inl kv.1 : Key)).length < sizeLine then some (OV.dK (dPut _ _ k p).1 (dPut _ _ k p).2) else none) = _
  rw [Option.bind_some, List.length_map]
  by_cases c : d.length < sizeLine
  · rw [if_pos c, if_pos c]
    unfold dPut dset dV
    rw [dAt_d]
    by_cases q : (dget d k).isSome
    · rw [if_pos q, if_pos q, dRep_d]
      have a : (d.map fun kv => if kv.1 = k then (kv.1, p) else kv).map (fun kv => (Sum.inl kv.1 : Key)) = d.map fun kv => Sum.inl kv.1 := by
        rw [List.map_map]
        refine List.map_congr_left fun kv _ => ?_
        show (Sum.inl (if kv.1 = k then (kv.1, p) else kv).1 : Key) = _
        split <;> rfl
      rw [a]
    · rw [if_neg q, if_neg q]; simp
  · rw [if_neg c, if_neg c]
theorem dget_set (d : List (Int × PV)) (k j : Int) (p : PV) : dget (dset d k p) j = if k = j then some p else dget d j := by
  unfold dset
  by_cases q : (dget d k).isSome
  · rw [if_pos q]
    have key : ∀ d : List (Int × PV), dget (d.map fun kv => if kv.1 = k then (kv.1, p) else kv) j = if k = j then (dget d k).map (fun _ => p) else dget d j := fun d => by
      induction d with
      | nil => unfold dget; simp
      | cons x d ih =>
        unfold dget at ih ⊢
        rw [List.map_cons, List.find?_cons, List.find?_cons, List.find?_cons]
        by_cases c : x.1 = k
        · rw [if_pos c]
          by_cases e : k = j
          · subst e; simp [c]
          · rw [show (x.1 == j) = false by simp [c, e]]
            simpa [e] using ih
        · rw [if_neg c]
          by_cases e : k = j
          · subst e
            rw [show (x.1 == k) = false by simp [c]]
            simpa using ih
          · by_cases e2 : x.1 = j
            · simp [e2, e]
            · rw [show (x.1 == j) = false by simp [e2]]
              simpa [e] using ih
    rw [key]
    by_cases e : k = j
    · rw [if_pos e, if_pos e]
      cases h : dget d k with
      | none => rw [h] at q; cases q
      | some w => rfl
    · rw [if_neg e, if_neg e]
  · rw [if_neg q]
    unfold dget at q ⊢
    rw [List.find?_append]
    by_cases e : k = j
    · subst e
      rw [if_pos rfl]
      cases h : d.find? (fun kv => kv.1 == k) with
      | none => simp
      | some w => rw [h] at q; simp at q
    · rw [if_neg e]
      cases h : d.find? (fun kv => kv.1 == j) with
      | none => simp [e]
      | some w => simp
theorem dset_len (d : List (Int × PV)) (k : Int) (p : PV) : (dset d k p).length ≤ d.length + 1 := by
  unfold dset; split <;> simp
@[simp] theorem wR_eDn (Γ : Env) (Q : Opd → Env → Prop) : wR (eDn Γ) Q = Q (.tmp (dV [])) Γ := by
  show wR (.ok (.tmp (.dK [] [])) Γ) Q = _
  rw [wR_ok]; rfl
end Mv
end S48_

section S49_
set_option Elab.async false
set_option linter.all false
set_option maxRecDepth 100000
namespace Mv
open PySem PySem.Spec PyProof.Rows L2
@[simp] theorem bDivmodW_i (i j : Int) : bDivmodW (.int i) (.int j) = if divOkW j then some (.val (.tup [.int (i / j), .int (i % j)])) else none := rfl
theorem divOkW_le {j : Int} (h0 : 0 < j) (h1 : j < 2 ^ 1000) : divOkW j = true := by
  unfold divOkW
  have h2 : j.natAbs < 2 ^ 1000 := by omega
  have h3 : j.natAbs.log2 < 1000 := (Nat.log2_lt (by omega)).mpr h2
  simp only [Bool.and_eq_true, decide_eq_true_eq]
  omega
@[simp] theorem oLtA_i (i j : Int) : oLtA (.int i) (.int j) = some (.val (.bl (decide (i < j)))) := rfl
@[simp] theorem oLtA_t (ns ms : List Int) : oLtA (.tup (ns.map .int)) (.tup (ms.map .int)) = some (.val (.bl (HT.lexLt ns ms))) := by
  show ((intsL (ns.map PV.int)).bind fun ns => (intsL (ms.map PV.int)).map fun ms => Rv.val (.bl (HT.lexLt ns ms))) = _
  simp
end Mv
end S49_

section S50_
set_option Elab.async false
set_option linter.all false
set_option maxRecDepth 100000
namespace Mv
open PySem PySem.Spec PyProof.Rows L2
@[simp] theorem wR_eDc (k i : Int) (Γ : Env) (Q : Opd → Env → Prop) : wR (eDc k i Γ) Q = Q (.tmp (dV [(k, .int i)])) Γ := by
  show wR (.ok (.tmp (.dK [.inl k] [.int i])) Γ) Q = _
  rw [wR_ok]; rfl
@[simp] theorem wR_eGet (f g h : ESem) (Γ : Env) (Q : Opd → Env → Prop) : wR (eGet f g h Γ) Q = wR (f Γ) fun d Γ1 => isDk (vw Γ1 d) = true ∧ wR (g Γ1) fun dk Γ2 => wR (h Γ2) fun dd Γ3 => wO (vw Γ3 d) fun p => wO (vw Γ3 dk) fun q => wO (vw Γ3 dd) fun r => wO (getD3 p q r) fun v => Q (.val v) Γ3 := by
  unfold eGet
  rw [wR_bind]
  congr 1; funext d Γ1
  by_cases c : isDk (vw Γ1 d) = true
  · rw [if_pos c]
    simp only [c, true_and, wR_bind]
    congr 1; funext dk Γ2
    congr 1; funext dd Γ3
    cases vw Γ3 d with
    | none => simp
    | some p =>
      cases vw Γ3 dk with
      | none => simp
      | some q =>
        cases vw Γ3 dd with
        | none => simp
        | some r => cases e : getD3 p q r <;> simp [e]
  · rw [if_neg c]
    simp [c]
@[simp] theorem isDk_d (d : List (Int × PV)) : isDk (some (dP d)) = true := rfl
@[simp] theorem getD3_d (d : List (Int × PV)) (k j : Int) : getD3 (dP d) (.int k) (.int j) = some ((dget d k).getD (.int j)) := by
  show ((some (Sum.inl k : Key)).bind fun k => (pth (.int j)).map fun _ => (dAt _ _ k).getD (.int j)) = _
  rw [Option.bind_some, pth_i, Option.map_some, dAt_d]
theorem intK_d (d : List (Int × PV)) : intK (d.map fun kv => (Sum.inl kv.1 : Key)) = some (d.map (·.1)) := by
  induction d with
  | nil => rfl
  | cons x d ih =>
    show (intK (d.map fun kv => (Sum.inl kv.1 : Key))).map (x.1 :: ·) = _
    rw [ih]; rfl
@[simp] theorem bSortedD_d (d : List (Int × PV)) : bSortedD (dP d) = if d.length < 64 then some (.tmp (.lst ((isort (d.map (·.1))).map .int))) else none := by
  show ((intK (d.map fun kv => (Sum.inl kv.1 : Key))).bind fun ns => if ns.length < 64 then some (Rv.tmp (.lst ((isort ns).map PV.int))) else none) = _
  rw [intK_d, Option.bind_some, List.length_map]
end Mv
end S50_

section S51_
set_option Elab.async false
set_option linter.all false
set_option maxRecDepth 100000
namespace Mv
open PySem PySem.Spec PyProof.Rows L2
/-! ### own __str__, own __eq__, join, str(i) -/
def strSl : Slot → Option Str
  | .sh (.str x) => some x
  | _ => none
@[simp] theorem strSl_sh (x : Str) : strSl (.sh (.str x)) = some x := by with_unfolding_all rfl
def blSl : Slot → Option Bool
  | .sh (.bl x) => some x
  | _ => none
@[simp] theorem blSl_sh (x : Bool) : blSl (.sh (.bl x)) = some x := by with_unfolding_all rfl
theorem wR_strN (F : FSem) (p : PV) (Γ : Env) (Q : Opd → Env → Prop) : wR (strN F p Γ) Q = wF (F [.sh p]) fun r outs => wO (nilO outs) fun _ => wO (strSl r) fun x => Q (.val (.str x)) Γ := by
  unfold strN
  cases F [.sh p] with
  | ret r o =>
    cases o with
    | nil => cases r with
      | sh z => cases z <;> with_unfolding_all rfl
      | _ => with_unfolding_all rfl
    | cons _ _ => cases r with
      | sh z => cases z <;> with_unfolding_all rfl
      | _ => with_unfolding_all rfl
  | _ => with_unfolding_all rfl
@[simp] theorem wR_strI (ok : Str → Bool) (F : FSem) (g : ESem) (Γ : Env) (Q : Opd → Env → Prop) : wR (eStrI ok F g Γ) Q = wR (eZ g Γ) fun d Γ1 => wO (pval d) fun p => isCls ok p = true ∧ wF (F [.sh p]) fun r outs => wO (nilO outs) fun _ => wO (strSl r) fun x => Q (.val (.str x)) Γ1 := by
  unfold eStrI
  rw [wR_bind]
  congr 1; funext d Γ'
  cases d with
  | val p => simp only [wO_some, pval_val]; rw [← wR_strN]; by_cases h : isCls ok p = true <;> simp [h]
  | _ => with_unfolding_all rfl
theorem wO_eqN (c : Str) (F : FSem) (p q : PV) (Q : Bool → Prop) : wO (eqN c F p q) Q = (isCls (fun y => y == c) p = true ∧ isCls (fun y => y == c) q = true ∧ wF (F [.sh p, .sh q]) fun r outs => wO (nilO outs) fun _ => wO (blSl r) Q) := by
  unfold eqN
  by_cases h : (isCls (fun y => y == c) p && isCls (fun y => y == c) q) = true
  · rw [if_pos h]
    rw [Bool.and_eq_true] at h
    simp only [h.1, h.2, true_and]
    cases F [.sh p, .sh q] with
    | ret r o =>
      cases o with
      | nil => cases r with
        | sh z => cases z <;> with_unfolding_all rfl
        | _ => with_unfolding_all rfl
      | cons _ _ => cases r with
        | sh z => cases z <;> with_unfolding_all rfl
        | _ => with_unfolding_all rfl
    | _ => with_unfolding_all rfl
  · rw [if_neg h, wO_none]
    rw [Bool.and_eq_true] at h
    simp only [eq_iff_iff, false_iff]
    exact fun ⟨a, b, _⟩ => h ⟨a, b⟩
@[simp] theorem wR_eqI (c : Str) (F : FSem) (f g : ESem) (Γ : Env) (Q : Opd → Env → Prop) : wR (eEqI c F f g Γ) Q = wR (eZ f Γ) fun d Γ1 => wR (eZ g Γ1) fun d2 Γ2 => wO (pval d) fun p => wO (pval d2) fun q => isCls (fun y => y == c) p = true ∧ isCls (fun y => y == c) q = true ∧ wF (F [.sh p, .sh q]) fun r outs => wO (nilO outs) fun _ => wO (blSl r) fun b => Q (.val (.bl b)) Γ2 := by
  unfold eEqI
  rw [wR_bind]
  congr 1; funext d Γ'
  rw [wR_bind]
  congr 1; funext d2 Γ2
  cases d with
  | val p =>
    cases d2 with
    | val q =>
      simp only [wO_some, pval_val]
      rw [← wO_eqN]
      cases eqN c F p q <;> with_unfolding_all rfl
    | _ => with_unfolding_all rfl
  | _ => cases d2 <;> with_unfolding_all rfl
theorem bStrN_ap {i : Int} (h : i.natAbs.log2 < 1920) : bStrN (.int i) = some (.val (.str (toString i))) := if_pos h
theorem bJoin_l {a : Str} {ys : List Str} (h : (ys.map (·.length)).sum + ys.length * a.length ≤ 16777216) : bJoin a (.lst (ys.map .str)) = some (.val (.str (Txt.join a ys))) := by
  show ((strsL (ys.map PV.str)).bind fun ys => if (ys.map (·.length)).sum + ys.length * a.length ≤ 16777216 then some (Rv.val (.str (Txt.join a ys))) else none) = _
  rw [strsL_map, Option.bind_some, if_pos h]
theorem strOk_mem {x : Str} : PyData.strOk x = true ↔ ∀ c ∈ x.cps.toList, c < 0x110000 := by
  unfold PyData.strOk
  rw [Array.all_eq_true_iff_forall_mem]
  simp
theorem reprChar_ok {q c : Nat} (hq : q < 0x110000) (hc : c < 0x110000) : ∀ d ∈ Builtin.Str.reprChar q c, d < 0x110000 := by
  have hx : ∀ n, ∀ d ∈ List.replicate n 48 ++ (Nat.toDigits 16 c).map Char.toNat, d < 0x110000 := fun n d hd => by
    rcases List.mem_append.mp hd with h | h
    · rw [(List.mem_replicate.mp h).2]; decide
    · obtain ⟨ch, _, rfl⟩ := List.mem_map.mp h
      have := ch.valid
      rcases this with h | h
      · show ch.val.toNat < _; omega
      · show ch.val.toNat < _; omega
  intro d hd
  unfold Builtin.Str.reprChar at hd
  dsimp only at hd
  (repeat' split at hd) <;> first
    | (simp only [List.mem_cons, List.not_mem_nil, or_false] at hd; omega)
    | (rcases List.mem_append.mp hd with h | h
       · simp only [List.mem_cons, List.not_mem_nil, or_false] at h; omega
       · exact hx _ d h)
theorem foldl_ok (q : Nat) (hq : q < 0x110000) : ∀ (l : List Nat) (acc : Array Nat), (∀ c ∈ l, c < 0x110000) → (∀ c ∈ acc.toList, c < 0x110000) → ∀ c ∈ (l.foldl (fun out c => out ++ (Builtin.Str.reprChar q c).toArray) acc).toList, c < 0x110000
  | [], acc, _, h => h
  | c :: r, acc, h, h2 => foldl_ok q hq r _ (fun d hd => h d (List.mem_cons_of_mem _ hd)) fun d hd => by
      simp only [Array.toList_append, List.mem_append] at hd
      rcases hd with hd | hd
      · exact h2 d hd
      · exact reprChar_ok hq (h c List.mem_cons_self) d (by simpa using hd)
theorem reprText_ok {x : Str} (h : PyData.strOk x = true) : PyData.strOk (reprText x) = true := by
  rw [strOk_mem] at h ⊢
  have hq : reprQuote x < 0x110000 := by unfold reprQuote; split <;> decide
  intro c hc
  unfold reprText at hc
  rw [← Array.foldl_toList] at hc
  simp only [Array.toList_push, List.mem_append, List.mem_singleton] at hc
  rcases hc with hc | rfl
  · exact foldl_ok _ hq _ _ h (fun d hd => by simp at hd; rw [hd]; exact hq) c hc
  · exact hq
theorem Rep.str {x : Str} (h : PyData.strOk x = true) : Rep (.str x) (10 * x.length + 2) 0 :=
  ⟨.str x, by unfold pd; rfl, by unfold PyData.canLay0; exact h, by unfold PyData.showable; rfl, by unfold PyData.depth; exact Nat.le_refl 0, by unfold PyData.shown; exact StrLaws.reprText_len x fun c hc => by have := (strOk_mem.mp h) c hc; omega, by unfold PyData.shown; exact reprText_ok h, by unfold PyData.eqv; simp⟩
end Mv
namespace Mv
open PySem PySem.Spec PyProof.Rows L2
theorem tjoin_eq (a : Str) (ys : List Str) : Txt.join a ys = Str.join a ys := StrLaws.glued_eq_join a ys
theorem strOk_joinA {a : Str} (ha : PyData.strOk a = true) : ∀ ts : List Str, (∀ t ∈ ts, PyData.strOk t = true) → PyData.strOk (Str.join a ts) = true
  | [], _ => by show PyData.strOk Str.empty = true; decide +kernel
  | [x], h => h x List.mem_cons_self
  | x :: y :: r, h => strOk_app (strOk_app (h x List.mem_cons_self) ha) (strOk_joinA ha (y :: r) fun t ht => h t (List.mem_cons_of_mem _ ht))
theorem join_len (a : Str) {ts : List Str} {n : Nat} (h : ∀ t ∈ ts, t.length ≤ n) : (Txt.join a ts).length ≤ ts.length * (n + a.length) ∧ (ts.map (·.length)).sum + ts.length * a.length ≤ ts.length * (n + a.length) := by
  have h2 : (ts.map (·.length)).sum ≤ ts.length * n := by
    induction ts with
    | nil => simp
    | cons t ts ih =>
      rw [List.map_cons, List.sum_cons, List.length_cons, Nat.succ_mul]
      have := h t List.mem_cons_self
      have := ih (fun u hu => h u (List.mem_cons_of_mem _ hu))
      omega
  have h1 := StrLaws.join_length_le a ts
  rw [← tjoin_eq] at h1
  rw [Nat.mul_add]
  omega
/-- repr(i) and str(i) -/
theorem repr_int {k : Nat} (hk : 0 < k) (hk2 : k ≤ 500) {i : Int} (h : i.natAbs < 10 ^ k) : bRepr (.int i) = some (.val (.str (toString i))) ∧ bStrN (.int i) = some (.val (.str (toString i))) ∧ PyData.strOk ((toString i : String) : Str) = true ∧ ((toString i : String) : Str).length ≤ k + 1 := by
  have hl := log2_lt h hk2
  have h2 := int_text_length_le10 hk h
  refine ⟨?_, bStrN_ap hl, strOk_of _, by rw [PySem.ofString_length]; exact h2⟩
  obtain ⟨x, e, r⟩ := Rep.int hk hk2 h
  refine bRepr_ap ?_
  unfold reprP
  have e1 : pd (.int i) = some (.int i) := by unfold pd; rfl
  rw [e1] at e ⊢
  cases e
  have e5 : ((PyData.int i).canLay0 && (PyData.int i).showable && decide ((PyData.int i).depth ≤ 64) && decide ((PyData.int i).shown.length ≤ sizeLine)) = true := by
    simp only [Bool.and_eq_true, decide_eq_true_eq]
    exact ⟨⟨⟨r.lay, r.shw⟩, Nat.le_trans r.dep (by decide)⟩, le_sz (Nat.le_trans r.len (by omega))⟩
  show (if _ then _ else _) = _
  rw [if_pos e5]
  unfold PyData.shown
  rfl
end Mv
end S51_

section S52_
set_option Elab.async false
set_option linter.all false
set_option maxRecDepth 100000
/-! law_k34_whole_losses_of_deals_and_worst_rests: written by a program of ours (gen.py) from the law's text -/
namespace Wk
open PySem PySem.Spec PyProof.Rows L2 Mv
def top (i : Nat) : Stmt := PySem.Challenge.pw_mintlots_k34_whole_losses_of_deals_and_w.main.body.getD i (.Pass ⟨0, 0, 0, 0⟩)
def clsB : Stmt → List Stmt
  | .ClassDef (body := b) .. => b
  | _ => []
def ownT (T : String) : Option Bool := if T = "NoneType" ∨ T = "bool" ∨ T = "int" ∨ T = "str" ∨ T = "tuple" ∨ T = "list" then some false else none
theorem ownT_of {K : PySem.W.Frag} {u : Value} (h1 : PySem.W.kitOne K (.type "NoneType") u = some false) (h2 : PySem.W.kitOne K (.type "bool") u = some false) (h3 : PySem.W.kitOne K (.type "int") u = some false) (h4 : PySem.W.kitOne K (.type "str") u = some false) (h5 : PySem.W.kitOne K (.type "tuple") u = some false) (h6 : PySem.W.kitOne K (.type "list") u = some false) : ∀ T b, ownT T = some b → PySem.W.kitOne K (.type T) u = some b := by
  intro T b h
  unfold ownT at h
  by_cases c : T = "NoneType" ∨ T = "bool" ∨ T = "int" ∨ T = "str" ∨ T = "tuple" ∨ T = "list"
  · rw [if_pos c] at h
    have e : false = b := Option.some.inj h
    subst e
    rcases c with c | c | c | c | c | c <;> rw [c] <;> assumption
  · rw [if_neg c] at h; cases h
abbrev s_law_grab : Stmt := top 29
theorem sc_law_grab : FnScope ["bag", "size", "figure", "seed"] ["bag", "size"] (defScope s_law_grab) := ⟨rfl, rfl, rfl, by decide +kernel, rfl, by decide +kernel, by decide +kernel⟩
abbrev s_law_some : Stmt := top 30
theorem sc_law_some : FnScope ["bag", "menu"] ["bag", "menu"] (defScope s_law_some) := ⟨rfl, rfl, rfl, by decide +kernel, rfl, by decide +kernel, by decide +kernel⟩
abbrev s_law_coins : Stmt := top 31
theorem sc_law_coins : FnScope ["bag", "many", "top", "by", "k"] ["bag", "many", "top"] (defScope s_law_coins) := ⟨rfl, rfl, rfl, by decide +kernel, rfl, by decide +kernel, by decide +kernel⟩
abbrev s_is_integer : Stmt := top 9
theorem sc_is_integer : FnScope ["value"] ["value"] (defScope s_is_integer) := ⟨rfl, rfl, rfl, by decide +kernel, rfl, by decide +kernel, by decide +kernel⟩
abbrev s_is_within_bounds : Stmt := top 10
theorem sc_is_within_bounds : FnScope ["value", "least", "most"] ["value", "least", "most"] (defScope s_is_within_bounds) := ⟨rfl, rfl, rfl, by decide +kernel, rfl, by decide +kernel, by decide +kernel⟩
abbrev s_first_wrong : Stmt := top 15
theorem sc_first_wrong : FnScope ["value", "index", "coin"] ["value"] (defScope s_first_wrong) := ⟨rfl, rfl, rfl, by decide +kernel, rfl, by decide +kernel, by decide +kernel⟩
abbrev s_ini_Lot : Stmt := (clsB (top 18)).getD 0 (.Pass ⟨0, 0, 0, 0⟩)
theorem sc_ini_Lot : FnScope ["self", "coins", "wrong"] ["self", "coins"] (defScope s_ini_Lot) := ⟨rfl, rfl, rfl, by decide +kernel, rfl, by decide +kernel, by decide +kernel⟩
abbrev s_law_moves : Stmt := top 32
theorem sc_law_moves : FnScope ["coins", "top", "found", "edge", "turn", "fresh", "price", "there", "coin"] ["coins", "top"] (defScope s_law_moves) := ⟨rfl, rfl, rfl, by decide +kernel, rfl, by decide +kernel, by decide +kernel⟩
abbrev s_law_due : Stmt := top 33
theorem sc_law_due : FnScope ["coins", "greatest", "edge", "found", "least_here", "price", "rest", "loss"] ["coins"] (defScope s_law_due) := ⟨rfl, rfl, rfl, by decide +kernel, rfl, by decide +kernel, by decide +kernel⟩
abbrev s_check_lot : Stmt := top 19
theorem sc_check_lot : FnScope ["value"] ["value"] (defScope s_check_lot) := ⟨rfl, rfl, rfl, by decide +kernel, rfl, by decide +kernel, by decide +kernel⟩
abbrev s_common_divisor : Stmt := top 12
theorem sc_common_divisor : FnScope ["one", "other", "first", "second"] ["one", "other"] (defScope s_common_divisor) := ⟨rfl, rfl, rfl, by decide +kernel, rfl, by decide +kernel, by decide +kernel⟩
abbrev s_eased : Stmt := top 21
theorem sc_eased : FnScope ["costs", "step", "cost", "size", "shared", "start", "rest", "turn", "later"] ["costs", "step", "cost"] (defScope s_eased) := ⟨rfl, rfl, rfl, by decide +kernel, rfl, by decide +kernel, by decide +kernel⟩
abbrev s_least_costs : Stmt := top 22
theorem sc_least_costs : FnScope ["size", "steps", "found", "step", "cost"] ["size", "steps"] (defScope s_least_costs) := ⟨rfl, rfl, rfl, by decide +kernel, rfl, by decide +kernel, by decide +kernel⟩
abbrev s_least_moves : Stmt := top 24
theorem sc_least_moves : FnScope ["coins", "greatest", "steps", "coin"] ["coins"] (defScope s_least_moves) := ⟨rfl, rfl, rfl, by decide +kernel, rfl, by decide +kernel, by decide +kernel⟩
abbrev s_prp_Lot_coins : Stmt := (clsB (top 18)).getD 2 (.Pass ⟨0, 0, 0, 0⟩)
theorem sc_prp_Lot_coins : FnScope ["self"] ["self"] (defScope s_prp_Lot_coins) := ⟨rfl, rfl, rfl, by decide +kernel, rfl, by decide +kernel, by decide +kernel⟩
abbrev s_moved_losses : Stmt := top 25
theorem sc_moved_losses : FnScope ["lot"] ["lot"] (defScope s_moved_losses) := ⟨rfl, rfl, rfl, by decide +kernel, rfl, by decide +kernel, by decide +kernel⟩
abbrev s_worst_rests : Stmt := top 26
theorem sc_worst_rests : FnScope ["lot", "found", "worst", "cost", "rest"] ["lot"] (defScope s_worst_rests) := ⟨rfl, rfl, rfl, by decide +kernel, rfl, by decide +kernel, by decide +kernel⟩
abbrev s_law_right : Stmt := top 34
theorem sc_law_right : FnScope ["bag", "coins", "lot", "due", "worst", "loss", "pair", "rest"] ["bag"] (defScope s_law_right) := ⟨rfl, rfl, rfl, by decide +kernel, rfl, by decide +kernel, by decide +kernel⟩
abbrev s_law_bag : Stmt := top 28
theorem sc_law_bag : FnScope ["script", "turn", "cell", "mixed", "each", "own"] ["script", "turn"] (defScope s_law_bag) := ⟨rfl, rfl, rfl, by decide +kernel, rfl, by decide +kernel, by decide +kernel⟩
abbrev s_law : Stmt := top 35
theorem sc_law : FnScope ["script", "turn"] ["script"] (defScope s_law) := ⟨rfl, rfl, rfl, by decide +kernel, rfl, by decide +kernel, by decide +kernel⟩
structure TxO (K : PySem.W.Frag) (mg : Str → Option Value) (C_Lot f_ini_Lot p_prp_Lot_coins f_prp_Lot_coins : Addr) (g_ini_Lot g_prp_Lot_coins : FuncData) : Prop where
  d_law_grab : DefAt K mg "_law_grab" s_law_grab
  d_law_some : DefAt K mg "_law_some" s_law_some
  d_law_coins : DefAt K mg "_law_coins" s_law_coins
  d_is_integer : DefAt K mg "is_integer" s_is_integer
  d_is_within_bounds : DefAt K mg "is_within_bounds" s_is_within_bounds
  d_first_wrong : DefAt K mg "first_wrong" s_first_wrong
  d_law_moves : DefAt K mg "_law_moves" s_law_moves
  d_law_due : DefAt K mg "_law_due" s_law_due
  d_check_lot : DefAt K mg "check_lot" s_check_lot
  d_common_divisor : DefAt K mg "common_divisor" s_common_divisor
  d_eased : DefAt K mg "eased" s_eased
  d_least_costs : DefAt K mg "least_costs" s_least_costs
  d_least_moves : DefAt K mg "least_moves" s_least_moves
  d_moved_losses : DefAt K mg "moved_losses" s_moved_losses
  d_worst_rests : DefAt K mg "worst_rests" s_worst_rests
  d_law_right : DefAt K mg "_law_right" s_law_right
  d_law_bag : DefAt K mg "_law_bag" s_law_bag
  d_law : DefAt K mg "law" s_law
  c_Lot : ClsAt K mg "Lot" C_Lot
  i_Lot : IniAt K C_Lot "Lot.__init__" s_ini_Lot f_ini_Lot g_ini_Lot
  p_Lot_coins : PrpAt K C_Lot "coins" "Lot.coins" s_prp_Lot_coins p_prp_Lot_coins f_prp_Lot_coins g_prp_Lot_coins
  b_abs : mg "abs" = none
  b_all : mg "all" = none
  b_bool : mg "bool" = none
  b_divmod : mg "divmod" = none
  b_enumerate : mg "enumerate" = none
  b_int : mg "int" = none
  b_isinstance : mg "isinstance" = none
  b_len : mg "len" = none
  b_max : mg "max" = none
  b_min : mg "min" = none
  b_range : mg "range" = none
  b_repr : mg "repr" = none
  b_set : mg "set" = none
  b_sorted : mg "sorted" = none
  b_tuple : mg "tuple" = none
  n_Lot_kinds : NoAttr K C_Lot "kinds"
  kc_Lot : ∀ T b, ownT T = some b → PySem.W.kitOne K (.type T) (.ref C_Lot) = some b
  ki_Lot_bool : PySem.W.kitOne K (.ref C_Lot) (.type "bool") = some false
  ki_Lot_int : PySem.W.kitOne K (.ref C_Lot) (.type "int") = some false
  ki_Lot_tuple : PySem.W.kitOne K (.ref C_Lot) (.type "tuple") = some false
  v_MOST_COIN : ∃ u, mg "MOST_COIN" = some u ∧ RelV (.int 60) u
  v_MOST_COINS : ∃ u, mg "MOST_COINS" = some u ∧ RelV (.int 15) u
-- _law_grab: slots 0 bag, 1 size, 2 figure, 3 seed
noncomputable def b_law_grab : SSem := (seqS (ifS (tV (eBin oGt (eBin ixS (eVar 0) (eC (.int 0))) (eC (.int 0))))
  (seqS (asgG (gT (gs1 (gI stS 0 (eC (.int 0))) (gs1 (gN 2) gs0))) (eB (op2 bDivmod) (aS [(eBin ixS (eVar 0) (eC (.int 0))), (eVar 1)])))
  (retS (eVar 2)))
  skipS)
  (seqS (asgG (gI stS 0 (eC (.int 2))) (eBin oAdd (eBin ixS (eVar 0) (eC (.int 2))) (eC (.int 1))))
  (seqS (asgS 3 (eBin oMod (eB (op1 bInt) (aS [(eBin oAdd (eBin ixS (eVar 0) (eC (.int 1))) (eBin oMul (eC (.int 20011)) (eBin ixS (eVar 0) (eC (.int 2)))))])) (eC (.int 2147483587))))
  (seqS (asgG (gI stS 0 (eC (.int 1))) (eBin oMod (eB (op1 bInt) (aS [(eBin oAdd (eBin oMul (eVar 3) (eBin oAdd (eBin oMod (eB (op1 bInt) (aS [(eVar 3)])) (eC (.int 9001))) (eC (.int 40013)))) (eBin oMul (eC (.int 19)) (eBin ixS (eVar 0) (eC (.int 2)))))])) (eC (.int 2147483587))))
  (retS (eBin oMod (eB (op1 bInt) (aS [(eBin oDiv (eBin ixS (eVar 0) (eC (.int 1))) (eC (.int 263)))])) (eVar 1)))))))
noncomputable def F_law_grab : FSem := fnS 4 [0] b_law_grab
section
variable {P : Program} {w : World} {K : PySem.W.Frag} {mg : Str → Option Value} {base : Heap} {C_Lot f_ini_Lot p_prp_Lot_coins f_prp_Lot_coins : Addr} {g_ini_Lot g_prp_Lot_coins : FuncData}
theorem ok_law_grab (T : TxO K mg C_Lot f_ini_Lot p_prp_Lot_coins f_prp_Lot_coins g_ini_Lot g_prp_Lot_coins) : OkD P w K mg base 1 "_law_grab" s_law_grab ["bag", "size"] [0] F_law_grab := okD (N := ["bag", "size", "figure", "seed"]) (ms := [0]) (b := b_law_grab) (k := 0) T.d_law_grab sc_law_grab fun f cdv A outer s H vs E hr =>
  (ss_cons (s_if (t_gt (ix (e_var (pv 0)) e_int) e_int) (ss_cons (s_asgG (ps_asg (e_z (bl call_divmod bDivmod_s T.b_divmod (ac (ix (e_var (pv 0)) e_int) (ac (e_var (pv 1)) a_nil)))) (g_tup rfl (gc (gx (pv 0) e_int) (gc (g_n (pg_name sc_law_grab.nd (i := 2) rfl (.inl rfl)) (nm rfl)) gs_nil)) rfl rfl (gs1_len (gs1_len gs0_len)))))
  (ss_one (s_ret (e_var (pv 2))))) ss_nil)
  (ss_cons (s_asgG (ps_asg (e_z (e_add (ix (e_var (pv 0)) e_int) e_int)) (gx (pv 0) e_int)))
  (ss_cons (s_asg (ps_set (i := 3) sc_law_grab.nd rfl (.inl rfl) (e_mod (bt call_int1 bInt_s T.b_int (ac (e_add (ix (e_var (pv 0)) e_int) (e_mul e_int (ix (e_var (pv 0)) e_int))) a_nil)) e_int)) (nm rfl) (lt_n (n := 4) rfl (by decide)))
  (ss_cons (s_asgG (ps_asg (e_z (e_mod (bt call_int1 bInt_s T.b_int (ac (e_add (e_mul (e_var (pv 3)) (e_add (e_mod (bt call_int1 bInt_s T.b_int (ac (e_var (pv 3)) a_nil)) e_int) e_int)) (e_mul e_int (ix (e_var (pv 0)) e_int))) a_nil)) e_int)) (gx (pv 0) e_int)))
  (ss_one (s_ret (e_mod (bt call_int1 bInt_s T.b_int (ac (e_div (ix (e_var (pv 0)) e_int) e_int) a_nil)) (e_var (pv 1)))))))))
end
-- _law_some: slots 0 bag, 1 menu
noncomputable def b_law_some : SSem := (retS (eBin ixS (eVar 1) (fC (some 0) F_law_grab (aS [(eVar 0), (eT (eB oLen (aS [(eVar 1)])))]))))
noncomputable def F_law_some : FSem := fnS 2 [0] b_law_some
section
variable {P : Program} {w : World} {K : PySem.W.Frag} {mg : Str → Option Value} {base : Heap} {C_Lot f_ini_Lot p_prp_Lot_coins f_prp_Lot_coins : Addr} {g_ini_Lot g_prp_Lot_coins : FuncData}
theorem ok_law_some (T : TxO K mg C_Lot f_ini_Lot p_prp_Lot_coins f_prp_Lot_coins g_ini_Lot g_prp_Lot_coins) : OkD P w K mg base 2 "_law_some" s_law_some ["bag", "menu"] [0] F_law_some := okD (N := ["bag", "menu"]) (ms := [0]) (b := b_law_some) (k := 1) T.d_law_some sc_law_some fun f cdv A outer s H vs E hr =>
  (ss_one (s_ret (ix (e_var (pv 1)) (cD (mo := (some 0)) (ok_law_grab T) (fun _ _ _ _ _ _ us hl => match us, hl with | [_, _], _ => rfl) hr (by decide) passO (fun m h => by cases h; decide) (ac (e_var (pv 0)) (ac (e_t (bl c_len oLen_s T.b_len (ac (e_var (pv 1)) a_nil))) a_nil))))))
end
-- _law_coins: slots 0 bag, 1 many, 2 top, 3 by, 4 k
noncomputable def b_law_coins : SSem := (seqS (asgS 3 (fC (some 0) F_law_some (aS [(eVar 0), (eT (eLst (aS [(eC (.int 1)), (eC (.int 1)), (eC (.int 1)), (eC (.int 1)), (eC (.int 2)), (eC (.int 3))])))])))
  (retS (eB (op1 bTuple) (aS [(eB (op1 bSrtSet) (aS [(lcE (iRg1 (eBin oAdd (eC (.int 1)) (fC (some 0) F_law_grab (aS [(eVar 0), (eVar 1)])))) (gN 4) tYesS (eBin oMul (eVar 3) (eBin oAdd (eC (.int 1)) (fC (some 0) F_law_grab (aS [(eVar 0), (eT (eBin oDiv (eVar 2) (eVar 3)))])))) [4])]))]))))
noncomputable def F_law_coins : FSem := fnS 5 [0] b_law_coins
section
variable {P : Program} {w : World} {K : PySem.W.Frag} {mg : Str → Option Value} {base : Heap} {C_Lot f_ini_Lot p_prp_Lot_coins f_prp_Lot_coins : Addr} {g_ini_Lot g_prp_Lot_coins : FuncData}
theorem ok_law_coins (T : TxO K mg C_Lot f_ini_Lot p_prp_Lot_coins f_prp_Lot_coins g_ini_Lot g_prp_Lot_coins) : OkD P w K mg base 3 "_law_coins" s_law_coins ["bag", "many", "top"] [0] F_law_coins := okD (N := ["bag", "many", "top", "by", "k"]) (ms := [0]) (b := b_law_coins) (k := 2) T.d_law_coins sc_law_coins fun f cdv A outer s H vs E hr =>
  (ss_cons (s_asg (ps_set (i := 3) sc_law_coins.nd rfl (.inr rfl) (cD (mo := (some 0)) (ok_law_some T) (fun _ _ _ _ _ _ us hl => match us, hl with | [_, _], _ => rfl) hr (by decide) passO (fun m h => by cases h; decide) (ac (e_var (pv 0)) (ac (e_t (e_lst (ac e_int (ac e_int (ac e_int (ac e_int (ac e_int (ac e_int a_nil)))))))) a_nil)))) (nm rfl) (lt_n (n := 5) rfl (by decide)))
  (ss_one (s_ret (bt call_tuple_of bTuple_s T.b_tuple (ac (e_srtset rfl T.b_sorted T.b_set (ac (e_lc rfl sc_law_coins.nd (i_r1 T.b_range (e_add e_int (cD (mo := (some 0)) (ok_law_grab T) (fun _ _ _ _ _ _ us hl => match us, hl with | [_, _], _ => rfl) hr (by decide) passO (fun m h => by cases h; decide) (ac (e_var (pv 0)) (ac (e_var (pv 1)) a_nil))))) (blkOk_by (own := [("k", 4)]) (by rfl)) rfl (by decide) ⟨fun _ _ _ _ _ => (gv_n (ws := [4]) (pg_name sc_law_coins.nd (i := 4) rfl (.inl rfl)) (by decide)), fun _ _ _ _ _ => ts_nil, fun _ _ _ _ _ => (e_mul (e_var (pv 3)) (e_add e_int (cD (mo := (some 0)) (ok_law_grab T) (fun _ _ _ _ _ _ us hl => match us, hl with | [_, _], _ => rfl) hr (by decide) passF (fun m h => by cases h; decide) (ac (e_var (pv 0)) (ac (e_t (e_div (e_var (pv 2)) (e_var (pv 3)))) a_nil)))))⟩) a_nil)) a_nil)))))
end
-- is_integer: slots 0 value
noncomputable def b_is_integer : SSem := (retS (eAndS (eIsi (fun t => kitB t "int") (fun x => if x = "Lot" then some false else none) (eVar 0)) (eNotS (eIsi (fun t => kitB t "bool") (fun x => if x = "Lot" then some false else none) (eVar 0)))))
noncomputable def F_is_integer : FSem := fnS 1 [] b_is_integer
section
variable {P : Program} {w : World} {K : PySem.W.Frag} {mg : Str → Option Value} {base : Heap} {C_Lot f_ini_Lot p_prp_Lot_coins f_prp_Lot_coins : Addr} {g_ini_Lot g_prp_Lot_coins : FuncData}
theorem ok_is_integer (T : TxO K mg C_Lot f_ini_Lot p_prp_Lot_coins f_prp_Lot_coins g_ini_Lot g_prp_Lot_coins) : OkD P w K mg base 1 "is_integer" s_is_integer ["value"] [] F_is_integer := okD (N := ["value"]) (ms := []) (b := b_is_integer) (k := 0) T.d_is_integer sc_is_integer fun f cdv A outer s H vs E hr =>
  (ss_one (s_ret (e_and (e_isi (bt := fun t => kitB t "int") (ct := (fun x => if x = "Lot" then some false else none)) (fun _ _ h => kit_ty h) (isi1 T.c_Lot T.ki_Lot_int) (pe_bltn (v := .ty "int") rfl T.b_int rfl rfl) (.ty "int") rfl T.b_isinstance (e_var (pv 0)) rfl rfl rfl) (e_one (e_not (e_isi (bt := fun t => kitB t "bool") (ct := (fun x => if x = "Lot" then some false else none)) (fun _ _ h => kit_ty h) (isi1 T.c_Lot T.ki_Lot_bool) (pe_bltn (v := .ty "bool") rfl T.b_bool rfl rfl) (.ty "bool") rfl T.b_isinstance (e_var (pv 0)) rfl rfl rfl))))))
end
-- is_within_bounds: slots 0 value, 1 least, 2 most
noncomputable def b_is_within_bounds : SSem := (retS (eAndS (fC none F_is_integer (aS [(eVar 0)])) (eChn oLe oLe (eVar 1) (eVar 0) (eVar 2))))
noncomputable def F_is_within_bounds : FSem := fnS 3 [] b_is_within_bounds
section
variable {P : Program} {w : World} {K : PySem.W.Frag} {mg : Str → Option Value} {base : Heap} {C_Lot f_ini_Lot p_prp_Lot_coins f_prp_Lot_coins : Addr} {g_ini_Lot g_prp_Lot_coins : FuncData}
theorem ok_is_within_bounds (T : TxO K mg C_Lot f_ini_Lot p_prp_Lot_coins f_prp_Lot_coins g_ini_Lot g_prp_Lot_coins) : OkD P w K mg base 2 "is_within_bounds" s_is_within_bounds ["value", "least", "most"] [] F_is_within_bounds := okD (N := ["value", "least", "most"]) (ms := []) (b := b_is_within_bounds) (k := 1) T.d_is_within_bounds sc_is_within_bounds fun f cdv A outer s H vs E hr =>
  (ss_one (s_ret (e_and (cD (mo := none) (ok_is_integer T) (fun _ _ _ _ _ _ us hl => match us, hl with | [_], _ => rfl) hr (by decide) passO (fun m h => nomatch h) (ac (e_var (pv 0)) a_nil)) (e_one (k_chn .le .le (e_var (pv 1)) (e_var (pv 0)) (e_var (pv 2)))))))
end
-- first_wrong: slots 0 value, 1 index, 2 coin
noncomputable def b_first_wrong : SSem := (seqS (forS (iEnA (eVar 0)) (gT (gs1 (gN 1) (gs1 (gN 2) gs0))) []
  (seqS (ifS (tOrS (tV (eBin oEq (eVar 1) (eC (.int 15)))) (tNotS (tV (fC none F_is_within_bounds (aS [(eVar 2), (eC (.int 1)), (eC (.int 60))])))))
  (retS (eVar 1))
  skipS)
  (ifS (tAndS (tV (eBin oGt (eVar 1) (eC (.int 0)))) (tV (eBin oLe (eVar 2) (eBin ixS (eVar 0) (eBin oSub (eVar 1) (eC (.int 1)))))))
  (retS (eVar 1))
  skipS)))
  (retS (eC .non)))
noncomputable def F_first_wrong : FSem := fnS 3 [] b_first_wrong
section
variable {P : Program} {w : World} {K : PySem.W.Frag} {mg : Str → Option Value} {base : Heap} {C_Lot f_ini_Lot p_prp_Lot_coins f_prp_Lot_coins : Addr} {g_ini_Lot g_prp_Lot_coins : FuncData}
theorem ok_first_wrong (T : TxO K mg C_Lot f_ini_Lot p_prp_Lot_coins f_prp_Lot_coins g_ini_Lot g_prp_Lot_coins) : OkD P w K mg base 3 "first_wrong" s_first_wrong ["value"] [] F_first_wrong := okD (N := ["value", "index", "coin"]) (ms := []) (b := b_first_wrong) (k := 2) T.d_first_wrong sc_first_wrong fun f cdv A outer s H vs E hr =>
  (ss_cons (sf passL rfl (i_enu T.b_enumerate (e_var (pv 0))) (g_tup rfl (gc (g_n (pg_name sc_first_wrong.nd (i := 1) rfl (.inl rfl)) (nm rfl)) (gc (g_n (pg_name sc_first_wrong.nd (i := 2) rfl (.inl rfl)) (nm rfl)) gs_nil)) rfl rfl (gs1_len (gs1_len gs0_len))) (ss_cons (s_if (PW.pt (w_or (t_eq hr (e_var (pv 1)) (gi T.v_MOST_COINS fun _ => rfl)) (w_or1 (t_not (tv (cD (mo := none) (ok_is_within_bounds T) (fun _ _ _ _ _ _ us hl => match us, hl with | [_, _, _], _ => rfl) hr (by decide) passO (fun m h => nomatch h) (ac (e_var (pv 2)) (ac e_int (ac (gi T.v_MOST_COIN fun _ => rfl) a_nil))))))))) (ss_one (s_ret (e_var (pv 1)))) ss_nil)
  (ss_one (s_if (PW.pt (w_and (t_gt (e_var (pv 1)) e_int) (w_and1 (t_le (e_var (pv 2)) (ix (e_var (pv 0)) (e_sub (e_var (pv 1)) e_int)))))) (ss_one (s_ret (e_var (pv 1)))) ss_nil))))
  (ss_one (s_ret e_non)))
end
-- Lot.__init__: slots 0 self, 1 coins, 2 wrong
noncomputable def b_ini_Lot : SSem := (seqS (ifS (tOrS (tNotS (tV (eIsi (fun t => kitB t "tuple") (fun x => if x = "Lot" then some false else none) (eVar 1)))) (tV (eBin oEq (eVar 1) (eTup (aS [])))))
  noS
  skipS)
  (seqS (asgS 2 (fC none F_first_wrong (aS [(eVar 1)])))
  (seqS (ifS (tV (eBin oNotN (eVar 2) (eC .non)))
  noS
  skipS)
  (fldS (fun x => x == "Lot") 0 "kinds" (eVar 1)))))
noncomputable def F_ini_Lot : FSem := fnS 3 [0] b_ini_Lot
section
variable {P : Program} {w : World} {K : PySem.W.Frag} {mg : Str → Option Value} {base : Heap} {C_Lot f_ini_Lot p_prp_Lot_coins f_prp_Lot_coins : Addr} {g_ini_Lot g_prp_Lot_coins : FuncData}
theorem ok_ini_Lot (T : TxO K mg C_Lot f_ini_Lot p_prp_Lot_coins f_prp_Lot_coins g_ini_Lot g_prp_Lot_coins) : OkI P w K mg base 4 "Lot" "Lot.__init__" s_ini_Lot ["self", "coins"] F_ini_Lot := okI (N := ["self", "coins", "wrong"]) (b := b_ini_Lot) (k := 3) T.c_Lot T.i_Lot sc_ini_Lot fun f cdv A outer s H vs E hr =>
  (ss_cons (s_if (PW.pt (w_or (t_not (tv (e_isi (bt := fun t => kitB t "tuple") (ct := (fun x => if x = "Lot" then some false else none)) (fun _ _ h => kit_ty h) (isi1 T.c_Lot T.ki_Lot_tuple) (pe_bltn (v := .ty "tuple") rfl T.b_tuple rfl rfl) (.ty "tuple") rfl T.b_isinstance (e_var (pv 1)) rfl rfl rfl))) (w_or1 (t_eq hr (e_var (pv 1)) (e_tup a_nil))))) ss_no ss_nil)
  (ss_cons (s_asg (ps_set (i := 2) sc_ini_Lot.nd rfl (.inl rfl) (cD (mo := none) (ok_first_wrong T) (fun _ _ _ _ _ _ us hl => match us, hl with | [_], _ => rfl) hr (by decide) passO (fun m h => nomatch h) (ac (e_var (pv 1)) a_nil))) (nm rfl) (lt_n (n := 3) rfl (by decide)))
  (ss_cons (s_if (t_nt (e_var (pv 2)) e_non) ss_no ss_nil)
  (ss_one (s_fld (fldOk1 T.c_Lot T.n_Lot_kinds) (pv 0) (e_var (pv 1)) rfl)))))
end
-- _law_moves: slots 0 coins, 1 top, 2 found, 3 edge, 4 turn, 5 fresh, 6 price, 7 there, 8 coin
noncomputable def b_law_moves : SSem := (seqS (parS [2, 3] (aS [eDn, (eLst (aS [(eC (.int 0))]))]))
  (seqS (asgG (gI stD 2 (eC (.int 0))) (eC (.int 0)))
  (seqS (forS (iRg2 (eC (.int 1)) (eBin oAdd (eVar 1) (eC (.int 1)))) (gN 4) []
  (seqS (asgS 5 (eLst (aS [])))
  (seqS (forS (iSeq (eVar 3)) (gN 6) []
  (forS (iSeq (eBin oAdd (lcE (iSeq (eVar 0)) (gN 8) tYesS (eBin oAdd (eVar 6) (eVar 8)) [8]) (lcE (iSeq (eVar 0)) (gN 8) tYesS (eBin oSub (eVar 6) (eVar 8)) [8]))) (gN 7) []
  (ifS (tAndS (tV (eBin oLe (eB (op1 bAbs) (aS [(eVar 7)])) (eVar 1))) (tV (eBin oNinD (eVar 7) (eVar 2))))
  (seqS (asgG (gI stD 2 (eVar 7)) (eVar 4))
  (dropS (eM isLst mAppend 5 (aS [(eZ (eVar 7))]))))
  skipS)))
  (asgS 3 (eVar 5)))))
  (retS (eVar 2)))))
noncomputable def F_law_moves : FSem := fnS 9 [] b_law_moves
section
variable {P : Program} {w : World} {K : PySem.W.Frag} {mg : Str → Option Value} {base : Heap} {C_Lot f_ini_Lot p_prp_Lot_coins f_prp_Lot_coins : Addr} {g_ini_Lot g_prp_Lot_coins : FuncData}
theorem ok_law_moves (T : TxO K mg C_Lot f_ini_Lot p_prp_Lot_coins f_prp_Lot_coins g_ini_Lot g_prp_Lot_coins) : OkD P w K mg base 1 "_law_moves" s_law_moves ["coins", "top"] [] F_law_moves := okD (N := ["coins", "top", "found", "edge", "turn", "fresh", "price", "there", "coin"]) (ms := []) (b := b_law_moves) (k := 0) T.d_law_moves sc_law_moves fun f cdv A outer s H vs E hr =>
  (ss_cons (s_par (ps_par (i := 2) (j := 3) rfl sc_law_moves.nd rfl rfl (by decide) rfl rfl (ac e_dn (ac (e_lst (ac e_int a_nil)) a_nil)) rfl) (pt_it rfl) (nm rfl) (nm rfl) (lt_n (n := 9) rfl (by decide)) (lt_n (n := 9) rfl (by decide)))
  (ss_cons (s_asgG (ps_asg (e_z e_int) (gxD hr (pv 2) e_int)))
  (ss_cons (sf passL rfl (i_r2 T.b_range e_int (e_add (e_var (pv 1)) e_int)) (g_n (pg_name sc_law_moves.nd (i := 4) rfl (.inl rfl)) (nm rfl)) (ss_cons (s_asg (ps_set (i := 5) sc_law_moves.nd rfl (.inl rfl) (e_lst a_nil)) (nm rfl) (lt_n (n := 9) rfl (by decide)))
  (ss_cons (sf passL rfl (i_sq (e_var (pv 3))) (g_n (pg_name sc_law_moves.nd (i := 6) rfl (.inr rfl)) (nm rfl)) (ss_one (sf passL rfl (i_sq (e_add (e_lc rfl sc_law_moves.nd (i_sq (e_var (pv 0))) (blkOk_by (own := [("coin", 8)]) (by rfl)) rfl (by decide) ⟨fun _ _ _ _ _ => (gv_n (ws := [8]) (pg_name sc_law_moves.nd (i := 8) rfl (.inl rfl)) (by decide)), fun _ _ _ _ _ => ts_nil, fun _ _ _ _ _ => (e_add (e_var (pv 6)) (e_var (pv 8)))⟩) (e_lc rfl sc_law_moves.nd (i_sq (e_var (pv 0))) (blkOk_by (own := [("coin", 8)]) (by rfl)) rfl (by decide) ⟨fun _ _ _ _ _ => (gv_n (ws := [8]) (pg_name sc_law_moves.nd (i := 8) rfl (.inl rfl)) (by decide)), fun _ _ _ _ _ => ts_nil, fun _ _ _ _ _ => (e_sub (e_var (pv 6)) (e_var (pv 8)))⟩))) (g_n (pg_name sc_law_moves.nd (i := 7) rfl (.inl rfl)) (nm rfl)) (ss_one (s_if (PW.pt (w_and (t_le (bl call_abs bAbs_s T.b_abs (ac (e_var (pv 7)) a_nil)) (e_var (pv 1))) (w_and1 (t_ninD hr (e_var (pv 7)) (e_var (pv 2)))))) (ss_cons (s_asgG (ps_asg (e_z (e_var (pv 4))) (gxD hr (pv 2) (e_var (pv 7)))))
  (ss_one (sx (m_app (pv 5) (ac (e_z (e_var (pv 7))) a_nil))))) ss_nil)))))
  (ss_one (s_asg (ps_set (i := 3) sc_law_moves.nd rfl (.inl rfl) (e_var (pv 5))) (nm rfl) (lt_n (n := 9) rfl (by decide)))))))
  (ss_one (s_ret (e_var (pv 2)))))))
end
-- _law_due: slots 0 coins, 1 greatest, 2 edge, 3 found, 4 least_here, 5 price, 6 rest, 7 loss
noncomputable def b_law_due : SSem := (seqS (asgS 1 (eBin ixS (eVar 0) (eUn oNeg (eC (.int 1)))))
  (seqS (asgS 2 (eIfS (tV (eBin oGt (eB oLen (aS [(eVar 0)])) (eC (.int 1)))) (eBin oMul (eBin oSub (eVar 1) (eC (.int 1))) (eBin ixS (eVar 0) (eUn oNeg (eC (.int 2))))) (eC (.int 0))))
  (seqS (parS [3, 4] (aS [(fC none F_law_moves (aS [(eVar 0), (eT (eBin oAdd (eVar 2) (eBin oMul (eC (.int 2)) (eVar 1))))])), (eBin oMul (eLst (aS [(eC .non)])) (eVar 1))]))
  (seqS (forS (iRg2 (eUn oNeg (eVar 2)) (eBin oAdd (eVar 2) (eC (.int 1)))) (gN 5) []
  (ifS (tV (eBin oInD (eVar 5) (eVar 3)))
  (seqS (parS [6, 7] (aS [(eBin oMod (eB (op1 bInt) (aS [(eVar 5)])) (eVar 1)), (eBin oSub (eBin oMul (eVar 1) (eBin ixD (eVar 3) (eVar 5))) (eVar 5))]))
  (asgG (gI stS 4 (eVar 6)) (eIfS (tV (eBin oIsN (eBin ixS (eVar 4) (eVar 6)) (eC .non))) (eVar 7) (eB oMin2 (aS [(eBin ixS (eVar 4) (eVar 6)), (eVar 7)])))))
  skipS))
  (retS (eB (op1 bTuple) (aS [(eVar 4)])))))))
noncomputable def F_law_due : FSem := fnS 8 [] b_law_due
section
variable {P : Program} {w : World} {K : PySem.W.Frag} {mg : Str → Option Value} {base : Heap} {C_Lot f_ini_Lot p_prp_Lot_coins f_prp_Lot_coins : Addr} {g_ini_Lot g_prp_Lot_coins : FuncData}
theorem ok_law_due (T : TxO K mg C_Lot f_ini_Lot p_prp_Lot_coins f_prp_Lot_coins g_ini_Lot g_prp_Lot_coins) : OkD P w K mg base 2 "_law_due" s_law_due ["coins"] [] F_law_due := okD (N := ["coins", "greatest", "edge", "found", "least_here", "price", "rest", "loss"]) (ms := []) (b := b_law_due) (k := 1) T.d_law_due sc_law_due fun f cdv A outer s H vs E hr =>
  (ss_cons (s_asg (ps_set (i := 1) sc_law_due.nd rfl (.inl rfl) (ix (e_var (pv 0)) (e_neg e_int))) (nm rfl) (lt_n (n := 8) rfl (by decide)))
  (ss_cons (s_asg (ps_set (i := 2) sc_law_due.nd rfl (.inl rfl) (e_if (t_gt (bl c_len oLen_s T.b_len (ac (e_var (pv 0)) a_nil)) e_int) (e_mul (e_sub (e_var (pv 1)) e_int) (ix (e_var (pv 0)) (e_neg e_int))) e_int)) (nm rfl) (lt_n (n := 8) rfl (by decide)))
  (ss_cons (s_par (ps_par (i := 3) (j := 4) rfl sc_law_due.nd rfl rfl (by decide) rfl rfl (ac (cD (mo := none) (ok_law_moves T) (fun _ _ _ _ _ _ us hl => match us, hl with | [_, _], _ => rfl) hr (by decide) passO (fun m h => nomatch h) (ac (e_var (pv 0)) (ac (e_t (e_add (e_var (pv 2)) (e_mul e_int (e_var (pv 1))))) a_nil))) (ac (e_mul (e_lst (ac e_non a_nil)) (e_var (pv 1))) a_nil)) rfl) (pt_it rfl) (nm rfl) (nm rfl) (lt_n (n := 8) rfl (by decide)) (lt_n (n := 8) rfl (by decide)))
  (ss_cons (sf passL rfl (i_r2 T.b_range (e_neg (e_var (pv 2))) (e_add (e_var (pv 2)) e_int)) (g_n (pg_name sc_law_due.nd (i := 5) rfl (.inl rfl)) (nm rfl)) (ss_one (s_if (t_inD hr (e_var (pv 5)) (e_var (pv 3))) (ss_cons (s_par (ps_par (i := 6) (j := 7) rfl sc_law_due.nd rfl rfl (by decide) rfl rfl (ac (e_mod (bt call_int1 bInt_s T.b_int (ac (e_var (pv 5)) a_nil)) (e_var (pv 1))) (ac (e_sub (e_mul (e_var (pv 1)) (e_ixD hr (e_var (pv 3)) (e_var (pv 5)))) (e_var (pv 5))) a_nil)) rfl) (pt_it rfl) (nm rfl) (nm rfl) (lt_n (n := 8) rfl (by decide)) (lt_n (n := 8) rfl (by decide)))
  (ss_one (s_asgG (ps_asg (e_z (e_if (t_is (ix (e_var (pv 4)) (e_var (pv 6))) e_non) (e_var (pv 7)) (bl (c_min rfl) oMin2_s T.b_min (ac (ix (e_var (pv 4)) (e_var (pv 6))) (ac (e_var (pv 7)) a_nil))))) (gx (pv 4) (e_var (pv 6))))))) ss_nil)))
  (ss_one (s_ret (bt call_tuple_of bTuple_s T.b_tuple (ac (e_var (pv 4)) a_nil))))))))
end
-- check_lot: slots 0 value
noncomputable def b_check_lot : SSem := (ifS (tNotS (tV (eIsi ownT (fun x => if x = "Lot" then some true else none) (eVar 0))))
  noS
  skipS)
noncomputable def F_check_lot : FSem := fnS 1 [] b_check_lot
section
variable {P : Program} {w : World} {K : PySem.W.Frag} {mg : Str → Option Value} {base : Heap} {C_Lot f_ini_Lot p_prp_Lot_coins f_prp_Lot_coins : Addr} {g_ini_Lot g_prp_Lot_coins : FuncData}
theorem ok_check_lot (T : TxO K mg C_Lot f_ini_Lot p_prp_Lot_coins f_prp_Lot_coins g_ini_Lot g_prp_Lot_coins) : OkD P w K mg base 1 "check_lot" s_check_lot ["value"] [] F_check_lot := okD (N := ["value"]) (ms := []) (b := b_check_lot) (k := 0) T.d_check_lot sc_check_lot fun f cdv A outer s H vs E hr =>
  (ss_one (s_if (t_not (tv (e_isi (bt := ownT) (ct := fun x => if x = "Lot" then some true else none) T.kc_Lot (isi1 T.c_Lot T.c_Lot.i.me) (pe_glob (v := .ref _) rfl T.c_Lot.m rfl) (.own _) rfl T.b_isinstance (e_var (pv 0)) rfl rfl rfl))) ss_no ss_nil))
end
-- common_divisor: slots 0 one, 1 other, 2 first, 3 second
noncomputable def b_common_divisor : SSem := (seqS (parS [2, 3] (aS [(eVar 0), (eVar 1)]))
  (seqS (whileS (tV (eBin oGt (eVar 3) (eC (.int 0)))) []
  (parS [2, 3] (aS [(eVar 3), (eBin oMod (eB (op1 bInt) (aS [(eVar 2)])) (eVar 3))])))
  (retS (eVar 2))))
noncomputable def F_common_divisor : FSem := fnS 4 [] b_common_divisor
section
variable {P : Program} {w : World} {K : PySem.W.Frag} {mg : Str → Option Value} {base : Heap} {C_Lot f_ini_Lot p_prp_Lot_coins f_prp_Lot_coins : Addr} {g_ini_Lot g_prp_Lot_coins : FuncData}
theorem ok_common_divisor (T : TxO K mg C_Lot f_ini_Lot p_prp_Lot_coins f_prp_Lot_coins g_ini_Lot g_prp_Lot_coins) : OkD P w K mg base 1 "common_divisor" s_common_divisor ["one", "other"] [] F_common_divisor := okD (N := ["one", "other", "first", "second"]) (ms := []) (b := b_common_divisor) (k := 0) T.d_common_divisor sc_common_divisor fun f cdv A outer s H vs E hr =>
  (ss_cons (s_par (ps_par (i := 2) (j := 3) rfl sc_common_divisor.nd rfl rfl (by decide) rfl rfl (ac (e_var (pv 0)) (ac (e_var (pv 1)) a_nil)) rfl) (pt_it rfl) (nm rfl) (nm rfl) (lt_n (n := 4) rfl (by decide)) (lt_n (n := 4) rfl (by decide)))
  (ss_cons (sw passL (t_gt (e_var (pv 3)) e_int) (ss_one (s_par (ps_par (i := 2) (j := 3) rfl sc_common_divisor.nd rfl rfl (by decide) rfl rfl (ac (e_var (pv 3)) (ac (e_mod (bt call_int1 bInt_s T.b_int (ac (e_var (pv 2)) a_nil)) (e_var (pv 3))) a_nil)) rfl) (pt_it rfl) (nm rfl) (nm rfl) (lt_n (n := 4) rfl (by decide)) (lt_n (n := 4) rfl (by decide)))))
  (ss_one (s_ret (e_var (pv 2))))))
end
-- eased: slots 0 costs, 1 step, 2 cost, 3 size, 4 shared, 5 start, 6 rest, 7 turn, 8 later
noncomputable def b_eased : SSem := (seqS (asgS 3 (eB oLen (aS [(eVar 0)])))
  (seqS (asgS 4 (fC none F_common_divisor (aS [(eVar 1), (eVar 3)])))
  (forS (iRg1 (eVar 4)) (gN 5) []
  (seqS (asgS 6 (eVar 5))
  (forS (iRg1 (eBin oMul (eC (.int 2)) (eBin oDiv (eVar 3) (eVar 4)))) (gN 7) []
  (seqS (asgS 8 (eBin oMod (eB (op1 bInt) (aS [(eBin oAdd (eVar 6) (eVar 1))])) (eVar 3)))
  (seqS (ifS (tAndS (tV (eBin oNotN (eBin ixS (eVar 0) (eVar 6)) (eC .non))) (tOrS (tV (eBin oIsN (eBin ixS (eVar 0) (eVar 8)) (eC .non))) (tV (eBin oLt (eBin oAdd (eBin ixS (eVar 0) (eVar 6)) (eVar 2)) (eBin ixS (eVar 0) (eVar 8))))))
  (asgG (gI stS 0 (eVar 8)) (eBin oAdd (eBin ixS (eVar 0) (eVar 6)) (eVar 2)))
  skipS)
  (asgS 6 (eVar 8)))))))))
noncomputable def F_eased : FSem := fnS 9 [0] b_eased
section
variable {P : Program} {w : World} {K : PySem.W.Frag} {mg : Str → Option Value} {base : Heap} {C_Lot f_ini_Lot p_prp_Lot_coins f_prp_Lot_coins : Addr} {g_ini_Lot g_prp_Lot_coins : FuncData}
theorem ok_eased (T : TxO K mg C_Lot f_ini_Lot p_prp_Lot_coins f_prp_Lot_coins g_ini_Lot g_prp_Lot_coins) : OkD P w K mg base 2 "eased" s_eased ["costs", "step", "cost"] [0] F_eased := okD (N := ["costs", "step", "cost", "size", "shared", "start", "rest", "turn", "later"]) (ms := [0]) (b := b_eased) (k := 1) T.d_eased sc_eased fun f cdv A outer s H vs E hr =>
  (ss_cons (s_asg (ps_set (i := 3) sc_eased.nd rfl (.inl rfl) (bl c_len oLen_s T.b_len (ac (e_var (pv 0)) a_nil))) (nm rfl) (lt_n (n := 9) rfl (by decide)))
  (ss_cons (s_asg (ps_set (i := 4) sc_eased.nd rfl (.inl rfl) (cD (mo := none) (ok_common_divisor T) (fun _ _ _ _ _ _ us hl => match us, hl with | [_, _], _ => rfl) hr (by decide) passO (fun m h => nomatch h) (ac (e_var (pv 1)) (ac (e_var (pv 3)) a_nil)))) (nm rfl) (lt_n (n := 9) rfl (by decide)))
  (ss_one (sf passL rfl (i_r1 T.b_range (e_var (pv 4))) (g_n (pg_name sc_eased.nd (i := 5) rfl (.inl rfl)) (nm rfl)) (ss_cons (s_asg (ps_set (i := 6) sc_eased.nd rfl (.inl rfl) (e_var (pv 5))) (nm rfl) (lt_n (n := 9) rfl (by decide)))
  (ss_one (sf passL rfl (i_r1 T.b_range (e_mul e_int (e_div (e_var (pv 3)) (e_var (pv 4))))) (g_n (pg_name sc_eased.nd (i := 7) rfl (.inl rfl)) (nm rfl)) (ss_cons (s_asg (ps_set (i := 8) sc_eased.nd rfl (.inl rfl) (e_mod (bt call_int1 bInt_s T.b_int (ac (e_add (e_var (pv 6)) (e_var (pv 1))) a_nil)) (e_var (pv 3)))) (nm rfl) (lt_n (n := 9) rfl (by decide)))
  (ss_cons (s_if (PW.pt (w_and (t_nt (ix (e_var (pv 0)) (e_var (pv 6))) e_non) (w_and1 (PW.pt (w_or (t_is (ix (e_var (pv 0)) (e_var (pv 8))) e_non) (w_or1 (t_lt (e_add (ix (e_var (pv 0)) (e_var (pv 6))) (e_var (pv 2))) (ix (e_var (pv 0)) (e_var (pv 8)))))))))) (ss_one (s_asgG (ps_asg (e_z (e_add (ix (e_var (pv 0)) (e_var (pv 6))) (e_var (pv 2)))) (gx (pv 0) (e_var (pv 8)))))) ss_nil)
  (ss_one (s_asg (ps_set (i := 6) sc_eased.nd rfl (.inl rfl) (e_var (pv 8))) (nm rfl) (lt_n (n := 9) rfl (by decide)))))))))))))
end
-- least_costs: slots 0 size, 1 steps, 2 found, 3 step, 4 cost
noncomputable def b_least_costs : SSem := (seqS (asgS 2 (eBin oAdd (eLst (aS [(eC (.int 0))])) (eBin oMul (eLst (aS [(eC .non)])) (eBin oSub (eVar 0) (eC (.int 1))))))
  (seqS (forS (iSeq (eVar 1)) (gT (gs1 (gN 3) (gs1 (gN 4) gs0))) []
  (ifS (tV (eBin oGt (eVar 3) (eC (.int 0))))
  (dropS (fC (some 0) F_eased (aS [(eVar 2), (eVar 3), (eVar 4)])))
  skipS))
  (retS (eVar 2))))
noncomputable def F_least_costs : FSem := fnS 5 [] b_least_costs
section
variable {P : Program} {w : World} {K : PySem.W.Frag} {mg : Str → Option Value} {base : Heap} {C_Lot f_ini_Lot p_prp_Lot_coins f_prp_Lot_coins : Addr} {g_ini_Lot g_prp_Lot_coins : FuncData}
theorem ok_least_costs (T : TxO K mg C_Lot f_ini_Lot p_prp_Lot_coins f_prp_Lot_coins g_ini_Lot g_prp_Lot_coins) : OkD P w K mg base 3 "least_costs" s_least_costs ["size", "steps"] [] F_least_costs := okD (N := ["size", "steps", "found", "step", "cost"]) (ms := []) (b := b_least_costs) (k := 2) T.d_least_costs sc_least_costs fun f cdv A outer s H vs E hr =>
  (ss_cons (s_asg (ps_set (i := 2) sc_least_costs.nd rfl (.inl rfl) (e_add (e_lst (ac e_int a_nil)) (e_mul (e_lst (ac e_non a_nil)) (e_sub (e_var (pv 0)) e_int)))) (nm rfl) (lt_n (n := 5) rfl (by decide)))
  (ss_cons (sf passL rfl (i_sq (e_var (pv 1))) (g_tup rfl (gc (g_n (pg_name sc_least_costs.nd (i := 3) rfl (.inl rfl)) (nm rfl)) (gc (g_n (pg_name sc_least_costs.nd (i := 4) rfl (.inl rfl)) (nm rfl)) gs_nil)) rfl rfl (gs1_len (gs1_len gs0_len))) (ss_one (s_if (t_gt (e_var (pv 3)) e_int) (ss_one (sx (cD (mo := (some 0)) (ok_eased T) (fun _ _ _ _ _ _ us hl => match us, hl with | [_, _, _], _ => rfl) hr (by decide) passO (fun m h => by cases h; decide) (ac (e_var (pv 2)) (ac (e_var (pv 3)) (ac (e_var (pv 4)) a_nil)))))) ss_nil)))
  (ss_one (s_ret (e_var (pv 2))))))
end
-- least_moves: slots 0 coins, 1 greatest, 2 steps, 3 coin
noncomputable def b_least_moves : SSem := (seqS (asgS 1 (eBin ixS (eVar 0) (eUn oNeg (eC (.int 1)))))
  (seqS (asgS 2 (lcE (iSeq (eSl (eVar 0) oNo (oSome (eUn oNeg (eC (.int 1)))))) (gN 3) tYesS (eTup (aS [(eZ (eVar 3)), (eZ (eBin oSub (eVar 1) (eVar 3)))])) [3]))
  (retS (fC none F_least_costs (aS [(eVar 1), (eT (eBin oAdd (eVar 2) (lcE (iSeq (eSl (eVar 0) oNo (oSome (eUn oNeg (eC (.int 1)))))) (gN 3) tYesS (eTup (aS [(eZ (eBin oSub (eVar 1) (eVar 3))), (eZ (eBin oAdd (eVar 1) (eVar 3)))])) [3])))])))))
noncomputable def F_least_moves : FSem := fnS 4 [] b_least_moves
section
variable {P : Program} {w : World} {K : PySem.W.Frag} {mg : Str → Option Value} {base : Heap} {C_Lot f_ini_Lot p_prp_Lot_coins f_prp_Lot_coins : Addr} {g_ini_Lot g_prp_Lot_coins : FuncData}
theorem ok_least_moves (T : TxO K mg C_Lot f_ini_Lot p_prp_Lot_coins f_prp_Lot_coins g_ini_Lot g_prp_Lot_coins) : OkD P w K mg base 4 "least_moves" s_least_moves ["coins"] [] F_least_moves := okD (N := ["coins", "greatest", "steps", "coin"]) (ms := []) (b := b_least_moves) (k := 3) T.d_least_moves sc_least_moves fun f cdv A outer s H vs E hr =>
  (ss_cons (s_asg (ps_set (i := 1) sc_least_moves.nd rfl (.inr rfl) (ix (e_var (pv 0)) (e_neg e_int))) (nm rfl) (lt_n (n := 4) rfl (by decide)))
  (ss_cons (s_asg (s_lc (i := 2) rfl sc_least_moves.nd rfl rfl rfl (i_sq (e_sl (e_var (pv 0)) o_no (o_some (e_neg e_int)))) (blkOk_by (own := [("coin", 3)]) (by rfl)) rfl (by decide) ⟨fun _ _ _ _ _ => (gv_n (ws := [3]) (pg_name sc_least_moves.nd (i := 3) rfl (.inl rfl)) (by decide)), fun _ _ _ _ _ => ts_nil, fun _ _ _ _ _ => (e_tup (ac (e_z (e_var (pv 3))) (ac (e_z (e_sub (e_var (pv 1)) (e_var (pv 3)))) a_nil)))⟩) (nm rfl) (lt_n (n := 4) rfl (by decide)))
  (ss_one (s_ret (cD (mo := none) (ok_least_costs T) (fun _ _ _ _ _ _ us hl => match us, hl with | [_, _], _ => rfl) hr (by decide) passO (fun m h => nomatch h) (ac (e_var (pv 1)) (ac (e_t (e_add (e_var (pv 2)) (e_lc rfl sc_least_moves.nd (i_sq (e_sl (e_var (pv 0)) o_no (o_some (e_neg e_int)))) (blkOk_by (own := [("coin", 3)]) (by rfl)) rfl (by decide) ⟨fun _ _ _ _ _ => (gv_n (ws := [3]) (pg_name sc_least_moves.nd (i := 3) rfl (.inl rfl)) (by decide)), fun _ _ _ _ _ => ts_nil, fun _ _ _ _ _ => (e_tup (ac (e_z (e_sub (e_var (pv 1)) (e_var (pv 3)))) (ac (e_z (e_add (e_var (pv 1)) (e_var (pv 3)))) a_nil)))⟩))) a_nil)))))))
end
-- Lot.coins: slots 0 self
noncomputable def b_prp_Lot_coins : SSem := (retS (eFld (fun x => x == "Lot") "kinds" (eVar 0)))
noncomputable def F_prp_Lot_coins : FSem := fnS 1 [] b_prp_Lot_coins
section
variable {P : Program} {w : World} {K : PySem.W.Frag} {mg : Str → Option Value} {base : Heap} {C_Lot f_ini_Lot p_prp_Lot_coins f_prp_Lot_coins : Addr} {g_ini_Lot g_prp_Lot_coins : FuncData}
theorem ok_prp_Lot_coins (T : TxO K mg C_Lot f_ini_Lot p_prp_Lot_coins f_prp_Lot_coins g_ini_Lot g_prp_Lot_coins) : OkP P w K mg base 1 "Lot" "coins" "Lot.coins" s_prp_Lot_coins ["self"] F_prp_Lot_coins := okP (N := ["self"]) (b := b_prp_Lot_coins) (k := 0) T.c_Lot T.p_Lot_coins sc_prp_Lot_coins fun f cdv A outer s H vs E hr =>
  (ss_one (s_ret (e_fld (fldOk1 T.c_Lot T.n_Lot_kinds) (e_var (pv 0)) rfl)))
end
-- moved_losses: slots 0 lot
noncomputable def b_moved_losses : SSem := (seqS (dropS (fC none F_check_lot (aS [(eVar 0)])))
  (retS (eB (op1 bTuple) (aS [(fC none F_least_moves (aS [(eT (ePrp (fun x => x == "Lot") F_prp_Lot_coins (eVar 0)))]))]))))
noncomputable def F_moved_losses : FSem := fnS 1 [] b_moved_losses
section
variable {P : Program} {w : World} {K : PySem.W.Frag} {mg : Str → Option Value} {base : Heap} {C_Lot f_ini_Lot p_prp_Lot_coins f_prp_Lot_coins : Addr} {g_ini_Lot g_prp_Lot_coins : FuncData}
theorem ok_moved_losses (T : TxO K mg C_Lot f_ini_Lot p_prp_Lot_coins f_prp_Lot_coins g_ini_Lot g_prp_Lot_coins) : OkD P w K mg base 5 "moved_losses" s_moved_losses ["lot"] [] F_moved_losses := okD (N := ["lot"]) (ms := []) (b := b_moved_losses) (k := 4) T.d_moved_losses sc_moved_losses fun f cdv A outer s H vs E hr =>
  (ss_cons (sx (cD (mo := none) (ok_check_lot T) (fun _ _ _ _ _ _ us hl => match us, hl with | [_], _ => rfl) hr (by decide) passO (fun m h => nomatch h) (ac (e_var (pv 0)) a_nil)))
  (ss_one (s_ret (bt call_tuple_of bTuple_s T.b_tuple (ac (cD (mo := none) (ok_least_moves T) (fun _ _ _ _ _ _ us hl => match us, hl with | [_], _ => rfl) hr (by decide) passO (fun m h => nomatch h) (ac (e_t (pC (ok_prp_Lot_coins T) (fun _ _ _ _ _ _ us hl => match us, hl with | [_], _ => rfl) hr (by decide) (e_var (pv 0)))) a_nil)) a_nil)))))
end
-- worst_rests: slots 0 lot, 1 found, 2 worst, 3 cost, 4 rest
noncomputable def b_worst_rests : SSem := (seqS (dropS (fC none F_check_lot (aS [(eVar 0)])))
  (seqS (asgS 1 (fC none F_least_moves (aS [(eT (ePrp (fun x => x == "Lot") F_prp_Lot_coins (eVar 0)))])))
  (seqS (asgS 2 (eB oMax1 (aS [(lcE (iSeq (eVar 1)) (gN 3) (tV (eBin oNotN (eVar 3) (eC .non))) (eVar 3) [3])])))
  (retS (eTup (aS [(eZ (eVar 2)), (eZ (eB (op1 bTuple) (aS [(lcE (iEnA (eVar 1)) (gT (gs1 (gN 4) (gs1 (gN 3) gs0))) (tV (eBin oEq (eVar 3) (eVar 2))) (eVar 4) [4, 3])])))]))))))
noncomputable def F_worst_rests : FSem := fnS 5 [] b_worst_rests
section
variable {P : Program} {w : World} {K : PySem.W.Frag} {mg : Str → Option Value} {base : Heap} {C_Lot f_ini_Lot p_prp_Lot_coins f_prp_Lot_coins : Addr} {g_ini_Lot g_prp_Lot_coins : FuncData}
theorem ok_worst_rests (T : TxO K mg C_Lot f_ini_Lot p_prp_Lot_coins f_prp_Lot_coins g_ini_Lot g_prp_Lot_coins) : OkD P w K mg base 5 "worst_rests" s_worst_rests ["lot"] [] F_worst_rests := okD (N := ["lot", "found", "worst", "cost", "rest"]) (ms := []) (b := b_worst_rests) (k := 4) T.d_worst_rests sc_worst_rests fun f cdv A outer s H vs E hr =>
  (ss_cons (sx (cD (mo := none) (ok_check_lot T) (fun _ _ _ _ _ _ us hl => match us, hl with | [_], _ => rfl) hr (by decide) passO (fun m h => nomatch h) (ac (e_var (pv 0)) a_nil)))
  (ss_cons (s_asg (ps_set (i := 1) sc_worst_rests.nd rfl (.inl rfl) (cD (mo := none) (ok_least_moves T) (fun _ _ _ _ _ _ us hl => match us, hl with | [_], _ => rfl) hr (by decide) passO (fun m h => nomatch h) (ac (e_t (pC (ok_prp_Lot_coins T) (fun _ _ _ _ _ _ us hl => match us, hl with | [_], _ => rfl) hr (by decide) (e_var (pv 0)))) a_nil))) (nm rfl) (lt_n (n := 5) rfl (by decide)))
  (ss_cons (s_asg (ps_set (i := 2) sc_worst_rests.nd rfl (.inr rfl) (bl (c_max1 rfl) oMax1_s T.b_max (ac (e_lc rfl sc_worst_rests.nd (i_sq (e_var (pv 1))) (blkOk_by (own := [("cost", 3)]) (by rfl)) rfl (by decide) ⟨fun _ _ _ _ _ => (gv_n (ws := [3]) (pg_name sc_worst_rests.nd (i := 3) rfl (.inl rfl)) (by decide)), fun _ _ _ _ _ => (ts_one (t_nt (e_var (pv 3)) e_non)), fun _ _ _ _ _ => (e_var (pv 3))⟩) a_nil))) (nm rfl) (lt_n (n := 5) rfl (by decide)))
  (ss_one (s_ret (e_tup (ac (e_z (e_var (pv 2))) (ac (e_z (bt call_tuple_of bTuple_s T.b_tuple (ac (e_lc rfl sc_worst_rests.nd (i_enu T.b_enumerate (e_var (pv 1))) (blkOk_by (own := [("rest", 4), ("cost", 3)]) (by rfl)) rfl (by decide) ⟨fun _ _ _ _ _ => (gv_tup rfl (gvc (gv_n (ws := [4, 3]) (pg_name sc_worst_rests.nd (i := 4) rfl (.inl rfl)) (by decide)) (gvc (gv_n (ws := [4, 3]) (pg_name sc_worst_rests.nd (i := 3) rfl (.inl rfl)) (by decide)) gvs_nil)) rfl rfl (gs1_len (gs1_len gs0_len))), fun _ _ _ _ _ => (ts_one (t_eq hr (e_var (pv 3)) (e_var (pv 2)))), fun _ _ _ _ _ => (e_var (pv 4))⟩) a_nil))) a_nil))))))))
end
-- _law_right: slots 0 bag, 1 coins, 2 lot, 3 due, 4 worst, 5 loss, 6 pair, 7 rest
noncomputable def b_law_right : SSem := (seqS (asgS 1 (fC (some 0) F_law_coins (aS [(eVar 0), (eC (.int 5)), (eT (fC (some 0) F_law_some (aS [(eVar 0), (eT (eLst (aS [(eC (.int 8)), (eC (.int 14)), (eC (.int 14)), (eC (.int 24))])))])))])))
  (seqS (parS [2, 3] (aS [(eZ (eNewK "Lot" F_ini_Lot [0] (aS ([(eZ (eVar 1))] ++ [])))), (fC none F_law_due (aS [(eVar 1)]))]))
  (seqS (ifS (tV (eBin oNe (eB (op1 bRepr) (aS [(eLst (aS [(eZ (fC none F_moved_losses (aS [(eVar 2)]))), (eZ (fCK none F_moved_losses [0] (aS ([] ++ [(eVar 2)]))))]))])) (eB (op1 bRepr) (aS [(eLst (aS [(eZ (eVar 3)), (eZ (eVar 3))]))]))))
  (retS (eC (.bl false)))
  skipS)
  (seqS (asgS 4 (eB oMax1 (aS [(lcE (iSeq (eVar 3)) (gN 5) (tV (eBin oNotN (eVar 5) (eC .non))) (eVar 5) [5])])))
  (seqS (asgS 6 (eTup (aS [(eZ (eVar 4)), (eZ (eB (op1 bTuple) (aS [(lcE (iRg1 (eB oLen (aS [(eVar 3)]))) (gN 7) (tV (eBin oEq (eBin ixS (eVar 3) (eVar 7)) (eVar 4))) (eVar 7) [7])])))])))
  (retS (eBin oEq (eB (op1 bRepr) (aS [(eLst (aS [(eZ (fC none F_worst_rests (aS [(eVar 2)]))), (eZ (fCK none F_worst_rests [0] (aS ([] ++ [(eVar 2)]))))]))])) (eB (op1 bRepr) (aS [(eLst (aS [(eZ (eVar 6)), (eZ (eVar 6))]))])))))))))
noncomputable def F_law_right : FSem := fnS 8 [0] b_law_right
section
variable {P : Program} {w : World} {K : PySem.W.Frag} {mg : Str → Option Value} {base : Heap} {C_Lot f_ini_Lot p_prp_Lot_coins f_prp_Lot_coins : Addr} {g_ini_Lot g_prp_Lot_coins : FuncData}
theorem ok_law_right (T : TxO K mg C_Lot f_ini_Lot p_prp_Lot_coins f_prp_Lot_coins g_ini_Lot g_prp_Lot_coins) : OkD P w K mg base 6 "_law_right" s_law_right ["bag"] [0] F_law_right := okD (N := ["bag", "coins", "lot", "due", "worst", "loss", "pair", "rest"]) (ms := [0]) (b := b_law_right) (k := 5) T.d_law_right sc_law_right fun f cdv A outer s H vs E hr =>
  (ss_cons (s_asg (ps_set (i := 1) sc_law_right.nd rfl (.inl rfl) (cD (mo := (some 0)) (ok_law_coins T) (fun _ _ _ _ _ _ us hl => match us, hl with | [_, _, _], _ => rfl) hr (by decide) passO (fun m h => by cases h; decide) (ac (e_var (pv 0)) (ac e_int (ac (e_t (cD (mo := (some 0)) (ok_law_some T) (fun _ _ _ _ _ _ us hl => match us, hl with | [_, _], _ => rfl) hr (by decide) passO (fun m h => by cases h; decide) (ac (e_var (pv 0)) (ac (e_t (e_lst (ac e_int (ac e_int (ac e_int (ac e_int a_nil)))))) a_nil)))) a_nil))))) (nm rfl) (lt_n (n := 8) rfl (by decide)))
  (ss_cons (s_parC (ps_asg (pe_tup (ac (e_z (nC (n1 := 1) (ks := []) (pi := [0]) (ok_ini_Lot T) (fun _ _ _ _ _ _ _ us1 us2 h1 h2 => match us1, us2, h1, h2 with | [_], [], _, _ => rfl) hr (by decide) passO (fc (ac (e_z (e_var (pv 1))) a_nil) k_nil) (by decide))) (ac (cD (mo := none) (ok_law_due T) (fun _ _ _ _ _ _ us hl => match us, hl with | [_], _ => rfl) hr (by decide) passO (fun m h => nomatch h) (ac (e_var (pv 1)) a_nil)) a_nil))) (pg_tup rfl (pgs_cons (pg_name sc_law_right.nd (i := 2) rfl (.inl rfl)) (pgs_cons (pg_name sc_law_right.nd (i := 3) rfl (.inr rfl)) pgs_nil)))) (pt_it rfl) (nm rfl) (nm rfl) (lt_n (n := 8) rfl (by decide)) (lt_n (n := 8) rfl (by decide)))
  (ss_cons (s_if (t_ne hr (bl (c_repr hr) bRepr_s T.b_repr (ac (e_lst (ac (e_z (cD (mo := none) (ok_moved_losses T) (fun _ _ _ _ _ _ us hl => match us, hl with | [_], _ => rfl) hr (by decide) passO (fun m h => nomatch h) (ac (e_var (pv 2)) a_nil))) (ac (e_z (cK (mo := none) (n1 := 0) (ks := ["lot"]) (pi := [0]) (ok_moved_losses T) (fun _ _ _ _ _ _ us1 us2 h1 h2 => match us1, us2, h1, h2 with | [], [_], _, _ => rfl) hr (by decide) passO (fun m h => nomatch h) (fn0 (k_cons (e_var (pv 2)) k_nil)) (by decide))) a_nil))) a_nil)) (bl (c_repr hr) bRepr_s T.b_repr (ac (e_lst (ac (e_z (e_var (pv 3))) (ac (e_z (e_var (pv 3))) a_nil))) a_nil))) (ss_one (s_ret e_bl)) ss_nil)
  (ss_cons (s_asg (ps_set (i := 4) sc_law_right.nd rfl (.inr rfl) (bl (c_max1 rfl) oMax1_s T.b_max (ac (e_lc rfl sc_law_right.nd (i_sq (e_var (pv 3))) (blkOk_by (own := [("loss", 5)]) (by rfl)) rfl (by decide) ⟨fun _ _ _ _ _ => (gv_n (ws := [5]) (pg_name sc_law_right.nd (i := 5) rfl (.inl rfl)) (by decide)), fun _ _ _ _ _ => (ts_one (t_nt (e_var (pv 5)) e_non)), fun _ _ _ _ _ => (e_var (pv 5))⟩) a_nil))) (nm rfl) (lt_n (n := 8) rfl (by decide)))
  (ss_cons (s_asg (ps_set (i := 6) sc_law_right.nd rfl (.inl rfl) (e_tup (ac (e_z (e_var (pv 4))) (ac (e_z (bt call_tuple_of bTuple_s T.b_tuple (ac (e_lc rfl sc_law_right.nd (i_r1 T.b_range (bl c_len oLen_s T.b_len (ac (e_var (pv 3)) a_nil))) (blkOk_by (own := [("rest", 7)]) (by rfl)) rfl (by decide) ⟨fun _ _ _ _ _ => (gv_n (ws := [7]) (pg_name sc_law_right.nd (i := 7) rfl (.inl rfl)) (by decide)), fun _ _ _ _ _ => (ts_one (t_eq hr (ix (e_var (pv 3)) (e_var (pv 7))) (e_var (pv 4)))), fun _ _ _ _ _ => (e_var (pv 7))⟩) a_nil))) a_nil)))) (nm rfl) (lt_n (n := 8) rfl (by decide)))
  (ss_one (s_ret (k_eq hr (bl (c_repr hr) bRepr_s T.b_repr (ac (e_lst (ac (e_z (cD (mo := none) (ok_worst_rests T) (fun _ _ _ _ _ _ us hl => match us, hl with | [_], _ => rfl) hr (by decide) passO (fun m h => nomatch h) (ac (e_var (pv 2)) a_nil))) (ac (e_z (cK (mo := none) (n1 := 0) (ks := ["lot"]) (pi := [0]) (ok_worst_rests T) (fun _ _ _ _ _ _ us1 us2 h1 h2 => match us1, us2, h1, h2 with | [], [_], _, _ => rfl) hr (by decide) passO (fun m h => nomatch h) (fn0 (k_cons (e_var (pv 2)) k_nil)) (by decide))) a_nil))) a_nil)) (bl (c_repr hr) bRepr_s T.b_repr (ac (e_lst (ac (e_z (e_var (pv 6))) (ac (e_z (e_var (pv 6))) a_nil))) a_nil))))))))))
end
-- _law_bag: slots 0 script, 1 turn, 2 cell, 3 mixed, 4 each, 5 own
noncomputable def b_law_bag : SSem := (seqS (asgS 2 (eIfS (tV (eBin oLt (eVar 1) (eB oLen (aS [(eVar 0)])))) (eB (op1 bInt) (aS [(eBin ixS (eVar 0) (eVar 1))])) (eBin oAdd (eBin oMul (eC (.int 7001)) (eVar 1)) (eC (.int 29)))))
  (seqS (asgS 3 (eBin oAdd (eC (.int 60013)) (eBin oMul (eC (.int 7013)) (eVar 1))))
  (seqS (forS (iSeq (eSl (eVar 0) oNo (oSome (eC (.int 6))))) (gN 4) []
  (asgS 3 (eBin oMod (eB (op1 bInt) (aS [(eBin oAdd (eBin oAdd (eBin oMul (eVar 3) (eC (.int 40009))) (eBin oMod (eB (op1 bInt) (aS [(eVar 4)])) (eC (.int 2147483587)))) (eC (.int 11)))])) (eC (.int 2147483587)))))
  (seqS (asgS 5 (eIfS (tOrS (tV (eBin oLt (eVar 2) (eC (.int 0)))) (tV (eBin oGe (eVar 2) (eBin oPow (eC (.int 10)) (eC (.int 17)))))) (eB (op1 bAbs) (aS [(eVar 2)])) (eC (.int 0))))
  (retS (eLst (aS [(eZ (eVar 5)), (eZ (eBin oMod (eB (op1 bInt) (aS [(eBin oAdd (eBin oMul (eVar 3) (eC (.int 61))) (eBin oMul (eBin oMod (eB (op1 bInt) (aS [(eVar 2)])) (eC (.int 2147483587))) (eC (.int 30011))))])) (eC (.int 2147483587)))), (eC (.int 0))])))))))
noncomputable def F_law_bag : FSem := fnS 6 [] b_law_bag
section
variable {P : Program} {w : World} {K : PySem.W.Frag} {mg : Str → Option Value} {base : Heap} {C_Lot f_ini_Lot p_prp_Lot_coins f_prp_Lot_coins : Addr} {g_ini_Lot g_prp_Lot_coins : FuncData}
theorem ok_law_bag (T : TxO K mg C_Lot f_ini_Lot p_prp_Lot_coins f_prp_Lot_coins g_ini_Lot g_prp_Lot_coins) : OkD P w K mg base 1 "_law_bag" s_law_bag ["script", "turn"] [] F_law_bag := okD (N := ["script", "turn", "cell", "mixed", "each", "own"]) (ms := []) (b := b_law_bag) (k := 0) T.d_law_bag sc_law_bag fun f cdv A outer s H vs E hr =>
  (ss_cons (s_asg (ps_set (i := 2) sc_law_bag.nd rfl (.inl rfl) (e_if (t_lt (e_var (pv 1)) (bl c_len oLen_s T.b_len (ac (e_var (pv 0)) a_nil))) (bt call_int1 bInt_s T.b_int (ac (ix (e_var (pv 0)) (e_var (pv 1))) a_nil)) (e_add (e_mul e_int (e_var (pv 1))) e_int))) (nm rfl) (lt_n (n := 6) rfl (by decide)))
  (ss_cons (s_asg (ps_set (i := 3) sc_law_bag.nd rfl (.inl rfl) (e_add e_int (e_mul e_int (e_var (pv 1))))) (nm rfl) (lt_n (n := 6) rfl (by decide)))
  (ss_cons (sf passL rfl (i_sq (e_sl (e_var (pv 0)) o_no (o_some e_int))) (g_n (pg_name sc_law_bag.nd (i := 4) rfl (.inl rfl)) (nm rfl)) (ss_one (s_asg (ps_set (i := 3) sc_law_bag.nd rfl (.inl rfl) (e_mod (bt call_int1 bInt_s T.b_int (ac (e_add (e_add (e_mul (e_var (pv 3)) e_int) (e_mod (bt call_int1 bInt_s T.b_int (ac (e_var (pv 4)) a_nil)) e_int)) e_int) a_nil)) e_int)) (nm rfl) (lt_n (n := 6) rfl (by decide)))))
  (ss_cons (s_asg (ps_set (i := 5) sc_law_bag.nd rfl (.inl rfl) (e_if (PW.pt (w_or (t_lt (e_var (pv 2)) e_int) (w_or1 (t_ge (e_var (pv 2)) (e_pow e_int e_int))))) (bl call_abs bAbs_s T.b_abs (ac (e_var (pv 2)) a_nil)) e_int)) (nm rfl) (lt_n (n := 6) rfl (by decide)))
  (ss_one (s_ret (e_lst (ac (e_z (e_var (pv 5))) (ac (e_z (e_mod (bt call_int1 bInt_s T.b_int (ac (e_add (e_mul (e_var (pv 3)) e_int) (e_mul (e_mod (bt call_int1 bInt_s T.b_int (ac (e_var (pv 2)) a_nil)) e_int) e_int)) a_nil)) e_int)) (ac e_int a_nil))))))))))
end
-- law: slots 0 script, 1 turn
noncomputable def b_law : SSem := (retS (eB (op1 bAll) (aS [(lcE (iRg1 (eB oMax2 (aS [(eC (.int 2)), (eB oMin2 (aS [(eB oLen (aS [(eVar 0)])), (eC (.int 3))]))]))) (gN 1) tYesS (fC (some 0) F_law_right (aS [(fC none F_law_bag (aS [(eVar 0), (eVar 1)]))])) [1])])))
noncomputable def F_law : FSem := fnS 2 [] b_law
section
variable {P : Program} {w : World} {K : PySem.W.Frag} {mg : Str → Option Value} {base : Heap} {C_Lot f_ini_Lot p_prp_Lot_coins f_prp_Lot_coins : Addr} {g_ini_Lot g_prp_Lot_coins : FuncData}
theorem ok_law (T : TxO K mg C_Lot f_ini_Lot p_prp_Lot_coins f_prp_Lot_coins g_ini_Lot g_prp_Lot_coins) : OkD P w K mg base 7 "law" s_law ["script"] [] F_law := okD (N := ["script", "turn"]) (ms := []) (b := b_law) (k := 6) T.d_law sc_law fun f cdv A outer s H vs E hr =>
  (ss_one (s_ret (bl (cr_all rfl) bAll_s T.b_all (ac (e_lc rfl sc_law.nd (i_r1 T.b_range (bl (c_max rfl) oMax2_s T.b_max (ac e_int (ac (bl (c_min rfl) oMin2_s T.b_min (ac (bl c_len oLen_s T.b_len (ac (e_var (pv 0)) a_nil)) (ac e_int a_nil))) a_nil)))) (blkOk_by (own := [("turn", 1)]) (by rfl)) rfl (by decide) ⟨fun _ _ _ _ _ => (gv_n (ws := [1]) (pg_name sc_law.nd (i := 1) rfl (.inl rfl)) (by decide)), fun _ _ _ _ _ => ts_nil, fun _ _ _ _ _ => (cD (mo := (some 0)) (ok_law_right T) (fun _ _ _ _ _ _ us hl => match us, hl with | [_], _ => rfl) hr (by decide) passF (fun m h => by cases h; decide) (ac (cD (mo := none) (ok_law_bag T) (fun _ _ _ _ _ _ us hl => match us, hl with | [_, _], _ => rfl) hr (by decide) passF (fun m h => nomatch h) (ac (e_var (pv 0)) (ac (e_var (pv 1)) a_nil))) a_nil))⟩) a_nil))))
end
theorem tx_mk {K : PySem.W.Frag} {h : Heap} {mg : Str → Option Value} {f_law_grab f_law_some f_law_coins f_is_integer f_is_within_bounds f_first_wrong f_law_moves f_law_due f_check_lot f_common_divisor f_eased f_least_costs f_least_moves f_moved_losses f_worst_rests f_law_right f_law_bag f_law C_Lot f_ini_Lot p_prp_Lot_coins f_prp_Lot_coins : Addr} (X : K.In h) (G : h.Ns mainGlobals mg)
    (a_law_grab : PySem.W.nsIn K mainGlobals "_law_grab" = some (some (.ref f_law_grab)))
    {od0 an0 : Option Addr} {sl0 : Array (Option Value)} {oc0 kV0 dc0 pm0 cd0 ct0 : Value}
    (l_law_grab : K.lookup f_law_grab = some ⟨oc0, od0, .func (PySem.W.fnOf "_law_grab" "_law_grab" (defArgs s_law_grab) (defBody s_law_grab) (defScope s_law_grab) .none kV0 dc0 pm0 an0 cd0 ct0), sl0⟩)
    (q_law_grab : PySem.W.codeIn K cd0 "_law_grab" = true) (k_law_grab : PySem.W.keepIn K (.ref f_law_grab) = true)
    (a_law_some : PySem.W.nsIn K mainGlobals "_law_some" = some (some (.ref f_law_some)))
    {od1 an1 : Option Addr} {sl1 : Array (Option Value)} {oc1 kV1 dc1 pm1 cd1 ct1 : Value}
    (l_law_some : K.lookup f_law_some = some ⟨oc1, od1, .func (PySem.W.fnOf "_law_some" "_law_some" (defArgs s_law_some) (defBody s_law_some) (defScope s_law_some) .none kV1 dc1 pm1 an1 cd1 ct1), sl1⟩)
    (q_law_some : PySem.W.codeIn K cd1 "_law_some" = true) (k_law_some : PySem.W.keepIn K (.ref f_law_some) = true)
    (a_law_coins : PySem.W.nsIn K mainGlobals "_law_coins" = some (some (.ref f_law_coins)))
    {od2 an2 : Option Addr} {sl2 : Array (Option Value)} {oc2 kV2 dc2 pm2 cd2 ct2 : Value}
    (l_law_coins : K.lookup f_law_coins = some ⟨oc2, od2, .func (PySem.W.fnOf "_law_coins" "_law_coins" (defArgs s_law_coins) (defBody s_law_coins) (defScope s_law_coins) .none kV2 dc2 pm2 an2 cd2 ct2), sl2⟩)
    (q_law_coins : PySem.W.codeIn K cd2 "_law_coins" = true) (k_law_coins : PySem.W.keepIn K (.ref f_law_coins) = true)
    (a_is_integer : PySem.W.nsIn K mainGlobals "is_integer" = some (some (.ref f_is_integer)))
    {od3 an3 : Option Addr} {sl3 : Array (Option Value)} {oc3 kV3 dc3 pm3 cd3 ct3 : Value}
    (l_is_integer : K.lookup f_is_integer = some ⟨oc3, od3, .func (PySem.W.fnOf "is_integer" "is_integer" (defArgs s_is_integer) (defBody s_is_integer) (defScope s_is_integer) .none kV3 dc3 pm3 an3 cd3 ct3), sl3⟩)
    (q_is_integer : PySem.W.codeIn K cd3 "is_integer" = true) (k_is_integer : PySem.W.keepIn K (.ref f_is_integer) = true)
    (a_is_within_bounds : PySem.W.nsIn K mainGlobals "is_within_bounds" = some (some (.ref f_is_within_bounds)))
    {od4 an4 : Option Addr} {sl4 : Array (Option Value)} {oc4 kV4 dc4 pm4 cd4 ct4 : Value}
    (l_is_within_bounds : K.lookup f_is_within_bounds = some ⟨oc4, od4, .func (PySem.W.fnOf "is_within_bounds" "is_within_bounds" (defArgs s_is_within_bounds) (defBody s_is_within_bounds) (defScope s_is_within_bounds) .none kV4 dc4 pm4 an4 cd4 ct4), sl4⟩)
    (q_is_within_bounds : PySem.W.codeIn K cd4 "is_within_bounds" = true) (k_is_within_bounds : PySem.W.keepIn K (.ref f_is_within_bounds) = true)
    (a_first_wrong : PySem.W.nsIn K mainGlobals "first_wrong" = some (some (.ref f_first_wrong)))
    {od5 an5 : Option Addr} {sl5 : Array (Option Value)} {oc5 kV5 dc5 pm5 cd5 ct5 : Value}
    (l_first_wrong : K.lookup f_first_wrong = some ⟨oc5, od5, .func (PySem.W.fnOf "first_wrong" "first_wrong" (defArgs s_first_wrong) (defBody s_first_wrong) (defScope s_first_wrong) .none kV5 dc5 pm5 an5 cd5 ct5), sl5⟩)
    (q_first_wrong : PySem.W.codeIn K cd5 "first_wrong" = true) (k_first_wrong : PySem.W.keepIn K (.ref f_first_wrong) = true)
    (a_law_moves : PySem.W.nsIn K mainGlobals "_law_moves" = some (some (.ref f_law_moves)))
    {od6 an6 : Option Addr} {sl6 : Array (Option Value)} {oc6 kV6 dc6 pm6 cd6 ct6 : Value}
    (l_law_moves : K.lookup f_law_moves = some ⟨oc6, od6, .func (PySem.W.fnOf "_law_moves" "_law_moves" (defArgs s_law_moves) (defBody s_law_moves) (defScope s_law_moves) .none kV6 dc6 pm6 an6 cd6 ct6), sl6⟩)
    (q_law_moves : PySem.W.codeIn K cd6 "_law_moves" = true) (k_law_moves : PySem.W.keepIn K (.ref f_law_moves) = true)
    (a_law_due : PySem.W.nsIn K mainGlobals "_law_due" = some (some (.ref f_law_due)))
    {od7 an7 : Option Addr} {sl7 : Array (Option Value)} {oc7 kV7 dc7 pm7 cd7 ct7 : Value}
    (l_law_due : K.lookup f_law_due = some ⟨oc7, od7, .func (PySem.W.fnOf "_law_due" "_law_due" (defArgs s_law_due) (defBody s_law_due) (defScope s_law_due) .none kV7 dc7 pm7 an7 cd7 ct7), sl7⟩)
    (q_law_due : PySem.W.codeIn K cd7 "_law_due" = true) (k_law_due : PySem.W.keepIn K (.ref f_law_due) = true)
    (a_check_lot : PySem.W.nsIn K mainGlobals "check_lot" = some (some (.ref f_check_lot)))
    {od8 an8 : Option Addr} {sl8 : Array (Option Value)} {oc8 kV8 dc8 pm8 cd8 ct8 : Value}
    (l_check_lot : K.lookup f_check_lot = some ⟨oc8, od8, .func (PySem.W.fnOf "check_lot" "check_lot" (defArgs s_check_lot) (defBody s_check_lot) (defScope s_check_lot) .none kV8 dc8 pm8 an8 cd8 ct8), sl8⟩)
    (q_check_lot : PySem.W.codeIn K cd8 "check_lot" = true) (k_check_lot : PySem.W.keepIn K (.ref f_check_lot) = true)
    (a_common_divisor : PySem.W.nsIn K mainGlobals "common_divisor" = some (some (.ref f_common_divisor)))
    {od9 an9 : Option Addr} {sl9 : Array (Option Value)} {oc9 kV9 dc9 pm9 cd9 ct9 : Value}
    (l_common_divisor : K.lookup f_common_divisor = some ⟨oc9, od9, .func (PySem.W.fnOf "common_divisor" "common_divisor" (defArgs s_common_divisor) (defBody s_common_divisor) (defScope s_common_divisor) .none kV9 dc9 pm9 an9 cd9 ct9), sl9⟩)
    (q_common_divisor : PySem.W.codeIn K cd9 "common_divisor" = true) (k_common_divisor : PySem.W.keepIn K (.ref f_common_divisor) = true)
    (a_eased : PySem.W.nsIn K mainGlobals "eased" = some (some (.ref f_eased)))
    {od10 an10 : Option Addr} {sl10 : Array (Option Value)} {oc10 kV10 dc10 pm10 cd10 ct10 : Value}
    (l_eased : K.lookup f_eased = some ⟨oc10, od10, .func (PySem.W.fnOf "eased" "eased" (defArgs s_eased) (defBody s_eased) (defScope s_eased) .none kV10 dc10 pm10 an10 cd10 ct10), sl10⟩)
    (q_eased : PySem.W.codeIn K cd10 "eased" = true) (k_eased : PySem.W.keepIn K (.ref f_eased) = true)
    (a_least_costs : PySem.W.nsIn K mainGlobals "least_costs" = some (some (.ref f_least_costs)))
    {od11 an11 : Option Addr} {sl11 : Array (Option Value)} {oc11 kV11 dc11 pm11 cd11 ct11 : Value}
    (l_least_costs : K.lookup f_least_costs = some ⟨oc11, od11, .func (PySem.W.fnOf "least_costs" "least_costs" (defArgs s_least_costs) (defBody s_least_costs) (defScope s_least_costs) .none kV11 dc11 pm11 an11 cd11 ct11), sl11⟩)
    (q_least_costs : PySem.W.codeIn K cd11 "least_costs" = true) (k_least_costs : PySem.W.keepIn K (.ref f_least_costs) = true)
    (a_least_moves : PySem.W.nsIn K mainGlobals "least_moves" = some (some (.ref f_least_moves)))
    {od12 an12 : Option Addr} {sl12 : Array (Option Value)} {oc12 kV12 dc12 pm12 cd12 ct12 : Value}
    (l_least_moves : K.lookup f_least_moves = some ⟨oc12, od12, .func (PySem.W.fnOf "least_moves" "least_moves" (defArgs s_least_moves) (defBody s_least_moves) (defScope s_least_moves) .none kV12 dc12 pm12 an12 cd12 ct12), sl12⟩)
    (q_least_moves : PySem.W.codeIn K cd12 "least_moves" = true) (k_least_moves : PySem.W.keepIn K (.ref f_least_moves) = true)
    (a_moved_losses : PySem.W.nsIn K mainGlobals "moved_losses" = some (some (.ref f_moved_losses)))
    {od13 an13 : Option Addr} {sl13 : Array (Option Value)} {oc13 kV13 dc13 pm13 cd13 ct13 : Value}
    (l_moved_losses : K.lookup f_moved_losses = some ⟨oc13, od13, .func (PySem.W.fnOf "moved_losses" "moved_losses" (defArgs s_moved_losses) (defBody s_moved_losses) (defScope s_moved_losses) .none kV13 dc13 pm13 an13 cd13 ct13), sl13⟩)
    (q_moved_losses : PySem.W.codeIn K cd13 "moved_losses" = true) (k_moved_losses : PySem.W.keepIn K (.ref f_moved_losses) = true)
    (a_worst_rests : PySem.W.nsIn K mainGlobals "worst_rests" = some (some (.ref f_worst_rests)))
    {od14 an14 : Option Addr} {sl14 : Array (Option Value)} {oc14 kV14 dc14 pm14 cd14 ct14 : Value}
    (l_worst_rests : K.lookup f_worst_rests = some ⟨oc14, od14, .func (PySem.W.fnOf "worst_rests" "worst_rests" (defArgs s_worst_rests) (defBody s_worst_rests) (defScope s_worst_rests) .none kV14 dc14 pm14 an14 cd14 ct14), sl14⟩)
    (q_worst_rests : PySem.W.codeIn K cd14 "worst_rests" = true) (k_worst_rests : PySem.W.keepIn K (.ref f_worst_rests) = true)
    (a_law_right : PySem.W.nsIn K mainGlobals "_law_right" = some (some (.ref f_law_right)))
    {od15 an15 : Option Addr} {sl15 : Array (Option Value)} {oc15 kV15 dc15 pm15 cd15 ct15 : Value}
    (l_law_right : K.lookup f_law_right = some ⟨oc15, od15, .func (PySem.W.fnOf "_law_right" "_law_right" (defArgs s_law_right) (defBody s_law_right) (defScope s_law_right) .none kV15 dc15 pm15 an15 cd15 ct15), sl15⟩)
    (q_law_right : PySem.W.codeIn K cd15 "_law_right" = true) (k_law_right : PySem.W.keepIn K (.ref f_law_right) = true)
    (a_law_bag : PySem.W.nsIn K mainGlobals "_law_bag" = some (some (.ref f_law_bag)))
    {od16 an16 : Option Addr} {sl16 : Array (Option Value)} {oc16 kV16 dc16 pm16 cd16 ct16 : Value}
    (l_law_bag : K.lookup f_law_bag = some ⟨oc16, od16, .func (PySem.W.fnOf "_law_bag" "_law_bag" (defArgs s_law_bag) (defBody s_law_bag) (defScope s_law_bag) .none kV16 dc16 pm16 an16 cd16 ct16), sl16⟩)
    (q_law_bag : PySem.W.codeIn K cd16 "_law_bag" = true) (k_law_bag : PySem.W.keepIn K (.ref f_law_bag) = true)
    (a_law : PySem.W.nsIn K mainGlobals "law" = some (some (.ref f_law)))
    {od17 an17 : Option Addr} {sl17 : Array (Option Value)} {oc17 kV17 dc17 pm17 cd17 ct17 : Value}
    (l_law : K.lookup f_law = some ⟨oc17, od17, .func (PySem.W.fnOf "law" "law" (defArgs s_law) (defBody s_law) (defScope s_law) .none kV17 dc17 pm17 an17 cd17 ct17), sl17⟩)
    (q_law : PySem.W.codeIn K cd17 "law" = true) (k_law : PySem.W.keepIn K (.ref f_law) = true)
    (a_Lot : PySem.W.nsIn K mainGlobals "Lot" = some (some (.ref C_Lot)))
    (pg_Lot : PySem.W.plainGet K C_Lot Str.empty = true)
    (hd_Lot : PySem.W.hasDictIn K C_Lot = true)
    (po_Lot : PySem.W.plainOver K C_Lot = true)
    (sa_Lot : PySem.W.findIn K (.ref C_Lot) "__setattr__" = some (some (.builtin "object.__setattr__")))
    (ha_Lot : PySem.W.findIn K (.ref C_Lot) "__class__" = some (some (.builtin "object.__class__")))
    (hm_Lot : PySem.W.mroIn K C_Lot (.type "object") = some true)
    (mk_Lot : PySem.W.makesIn K C_Lot = true)
    (kp_Lot : PySem.W.keepIn K (.ref C_Lot) = true)
    (hn_Lot : PySem.W.specialIn K (.builtin "object.__class__") "__get__" = some (some (.builtin "getset_descriptor.__get__"))) (htk_Lot : PySem.W.takesIn K (.builtin "object.__class__") = some true)
    (a_ini_Lot : PySem.W.findIn K (.ref C_Lot) "__init__" = some (some (.ref f_ini_Lot))) (i_ini_Lot : PySem.W.isFn K (.ref f_ini_Lot) = true)
    {od18 an18 : Option Addr} {sl18 : Array (Option Value)} {oc18 kV18 dc18 pm18 cd18 ct18 : Value}
    (l_ini_Lot : K.lookup f_ini_Lot = some ⟨oc18, od18, .func (PySem.W.fnOf "__init__" "Lot.__init__" (defArgs s_ini_Lot) (defBody s_ini_Lot) (defScope s_ini_Lot) .none kV18 dc18 pm18 an18 cd18 ct18), sl18⟩)
    (q_ini_Lot : PySem.W.codeIn K cd18 "Lot.__init__" = true) (k_ini_Lot : PySem.W.keepIn K (.ref f_ini_Lot) = true)
    {r_prp_Lot_coins : List Value} (a_prp_Lot_coins : PySem.W.findIn K (.ref C_Lot) "coins" = some (some (.ref p_prp_Lot_coins))) (j_prp_Lot_coins : PySem.W.specialIn K (.ref p_prp_Lot_coins) "__get__" = some (some (.builtin "property.__get__"))) (t_prp_Lot_coins : PySem.W.takesIn K (.ref p_prp_Lot_coins) = some true) (x_prp_Lot_coins : PySem.W.recIn K p_prp_Lot_coins "property" = some (.ref f_prp_Lot_coins :: r_prp_Lot_coins))
    {od19 an19 : Option Addr} {sl19 : Array (Option Value)} {oc19 kV19 dc19 pm19 cd19 ct19 : Value}
    (l_prp_Lot_coins : K.lookup f_prp_Lot_coins = some ⟨oc19, od19, .func (PySem.W.fnOf "coins" "Lot.coins" (defArgs s_prp_Lot_coins) (defBody s_prp_Lot_coins) (defScope s_prp_Lot_coins) .none kV19 dc19 pm19 an19 cd19 ct19), sl19⟩)
    (q_prp_Lot_coins : PySem.W.codeIn K cd19 "Lot.coins" = true) (k_prp_Lot_coins : PySem.W.keepIn K (.ref f_prp_Lot_coins) = true)
    (z_abs : PySem.W.nsIn K mainGlobals "abs" = some none)
    (z_all : PySem.W.nsIn K mainGlobals "all" = some none)
    (z_bool : PySem.W.nsIn K mainGlobals "bool" = some none)
    (z_divmod : PySem.W.nsIn K mainGlobals "divmod" = some none)
    (z_enumerate : PySem.W.nsIn K mainGlobals "enumerate" = some none)
    (z_int : PySem.W.nsIn K mainGlobals "int" = some none)
    (z_isinstance : PySem.W.nsIn K mainGlobals "isinstance" = some none)
    (z_len : PySem.W.nsIn K mainGlobals "len" = some none)
    (z_max : PySem.W.nsIn K mainGlobals "max" = some none)
    (z_min : PySem.W.nsIn K mainGlobals "min" = some none)
    (z_range : PySem.W.nsIn K mainGlobals "range" = some none)
    (z_repr : PySem.W.nsIn K mainGlobals "repr" = some none)
    (z_set : PySem.W.nsIn K mainGlobals "set" = some none)
    (z_sorted : PySem.W.nsIn K mainGlobals "sorted" = some none)
    (z_tuple : PySem.W.nsIn K mainGlobals "tuple" = some none)
    (n_Lot_kinds : PySem.W.findIn K (.ref C_Lot) "kinds" = some none)
    (kt_Lot : PySem.W.typeIn K (.ref C_Lot) = some (.type "type"))
    (kc_Lot_NoneType : PySem.W.subIn K (.type "NoneType") (.ref C_Lot) = some false)
    (kc_Lot_bool : PySem.W.subIn K (.type "bool") (.ref C_Lot) = some false)
    (kc_Lot_int : PySem.W.subIn K (.type "int") (.ref C_Lot) = some false)
    (kc_Lot_str : PySem.W.subIn K (.type "str") (.ref C_Lot) = some false)
    (kc_Lot_tuple : PySem.W.subIn K (.type "tuple") (.ref C_Lot) = some false)
    (kc_Lot_list : PySem.W.subIn K (.type "list") (.ref C_Lot) = some false)
    (ki_Lot_bool : PySem.W.subIn K (.ref C_Lot) (.type "bool") = some false)
    (ki_Lot_int : PySem.W.subIn K (.ref C_Lot) (.type "int") = some false)
    (ki_Lot_tuple : PySem.W.subIn K (.ref C_Lot) (.type "tuple") = some false)
    {t_MOST_COIN : Tok} (v_MOST_COIN : PySem.W.nsIn K mainGlobals "MOST_COIN" = some (some (.int 60 t_MOST_COIN)))
    {t_MOST_COINS : Tok} (v_MOST_COINS : PySem.W.nsIn K mainGlobals "MOST_COINS" = some (some (.int 15 t_MOST_COINS))) :
    ∃ (C_Lot' : Addr) (f_ini_Lot' : Addr) (p_prp_Lot_coins' : Addr) (f_prp_Lot_coins' : Addr) (g_ini_Lot' : FuncData) (g_prp_Lot_coins' : FuncData) (f : Addr), TxO K mg C_Lot' f_ini_Lot' p_prp_Lot_coins' f_prp_Lot_coins' g_ini_Lot' g_prp_Lot_coins' ∧ mg "law" = some (.ref f) :=
  ⟨_, _, _, _, _, _, _, ⟨
    ⟨_, _, fun_mk (st := s_law_grab) l_law_grab q_law_grab k_law_grab, PySem.W.mg_of X G a_law_grab⟩,
    ⟨_, _, fun_mk (st := s_law_some) l_law_some q_law_some k_law_some, PySem.W.mg_of X G a_law_some⟩,
    ⟨_, _, fun_mk (st := s_law_coins) l_law_coins q_law_coins k_law_coins, PySem.W.mg_of X G a_law_coins⟩,
    ⟨_, _, fun_mk (st := s_is_integer) l_is_integer q_is_integer k_is_integer, PySem.W.mg_of X G a_is_integer⟩,
    ⟨_, _, fun_mk (st := s_is_within_bounds) l_is_within_bounds q_is_within_bounds k_is_within_bounds, PySem.W.mg_of X G a_is_within_bounds⟩,
    ⟨_, _, fun_mk (st := s_first_wrong) l_first_wrong q_first_wrong k_first_wrong, PySem.W.mg_of X G a_first_wrong⟩,
    ⟨_, _, fun_mk (st := s_law_moves) l_law_moves q_law_moves k_law_moves, PySem.W.mg_of X G a_law_moves⟩,
    ⟨_, _, fun_mk (st := s_law_due) l_law_due q_law_due k_law_due, PySem.W.mg_of X G a_law_due⟩,
    ⟨_, _, fun_mk (st := s_check_lot) l_check_lot q_check_lot k_check_lot, PySem.W.mg_of X G a_check_lot⟩,
    ⟨_, _, fun_mk (st := s_common_divisor) l_common_divisor q_common_divisor k_common_divisor, PySem.W.mg_of X G a_common_divisor⟩,
    ⟨_, _, fun_mk (st := s_eased) l_eased q_eased k_eased, PySem.W.mg_of X G a_eased⟩,
    ⟨_, _, fun_mk (st := s_least_costs) l_least_costs q_least_costs k_least_costs, PySem.W.mg_of X G a_least_costs⟩,
    ⟨_, _, fun_mk (st := s_least_moves) l_least_moves q_least_moves k_least_moves, PySem.W.mg_of X G a_least_moves⟩,
    ⟨_, _, fun_mk (st := s_moved_losses) l_moved_losses q_moved_losses k_moved_losses, PySem.W.mg_of X G a_moved_losses⟩,
    ⟨_, _, fun_mk (st := s_worst_rests) l_worst_rests q_worst_rests k_worst_rests, PySem.W.mg_of X G a_worst_rests⟩,
    ⟨_, _, fun_mk (st := s_law_right) l_law_right q_law_right k_law_right, PySem.W.mg_of X G a_law_right⟩,
    ⟨_, _, fun_mk (st := s_law_bag) l_law_bag q_law_bag k_law_bag, PySem.W.mg_of X G a_law_bag⟩,
    ⟨_, _, fun_mk (st := s_law) l_law q_law k_law, PySem.W.mg_of X G a_law⟩,
    ⟨PySem.W.mg_of X G a_Lot, ⟨pg_Lot, hd_Lot, po_Lot, sa_Lot⟩, ha_Lot, hn_Lot, htk_Lot, hm_Lot, kit_self⟩,
    ⟨⟨mk_Lot, a_ini_Lot, i_ini_Lot, kp_Lot⟩, fun_mk (st := s_ini_Lot) l_ini_Lot q_ini_Lot k_ini_Lot⟩,
    ⟨⟨a_prp_Lot_coins, j_prp_Lot_coins, t_prp_Lot_coins, ⟨_, x_prp_Lot_coins⟩⟩, fun_mk (st := s_prp_Lot_coins) l_prp_Lot_coins q_prp_Lot_coins k_prp_Lot_coins⟩,
    PySem.W.mg_none_of X G z_abs,
    PySem.W.mg_none_of X G z_all,
    PySem.W.mg_none_of X G z_bool,
    PySem.W.mg_none_of X G z_divmod,
    PySem.W.mg_none_of X G z_enumerate,
    PySem.W.mg_none_of X G z_int,
    PySem.W.mg_none_of X G z_isinstance,
    PySem.W.mg_none_of X G z_len,
    PySem.W.mg_none_of X G z_max,
    PySem.W.mg_none_of X G z_min,
    PySem.W.mg_none_of X G z_range,
    PySem.W.mg_none_of X G z_repr,
    PySem.W.mg_none_of X G z_set,
    PySem.W.mg_none_of X G z_sorted,
    PySem.W.mg_none_of X G z_tuple,
    n_Lot_kinds,
    ownT_of (kit_tyR hd_Lot kt_Lot kc_Lot_NoneType) (kit_tyR hd_Lot kt_Lot kc_Lot_bool) (kit_tyR hd_Lot kt_Lot kc_Lot_int) (kit_tyR hd_Lot kt_Lot kc_Lot_str) (kit_tyR hd_Lot kt_Lot kc_Lot_tuple) (kit_tyR hd_Lot kt_Lot kc_Lot_list),
    kit_refT ki_Lot_bool rfl,
    kit_refT ki_Lot_int rfl,
    kit_refT ki_Lot_tuple rfl,
    ⟨_, PySem.W.mg_of X G v_MOST_COIN, ⟨_, rfl⟩⟩,
    ⟨_, PySem.W.mg_of X G v_MOST_COINS, ⟨_, rfl⟩⟩⟩, PySem.W.mg_of X G a_law⟩
theorem law_end {l : PySem.W.OpenLaw} {q : Program} {loose : List Str} {XP : (Str → Option Value) → Heap → Prop} {YP : World → Heap → Prop} {d : DefRec} {K : Params → PySem.W.Frag} (hn : l.most = some 63) (hdf : d.params.defaults = []) (hdn : d.name = "law")
    (hY : ∀ (w : World) (h : Heap), YP w h → (K w.params).In h) (hF : ∀ ns : List Int, ns.length ≤ 63 → F_law [.sh (.lst (ns.map PV.int))] = .ret (.sh (.bl true)) [])
    (hT : ∀ (w : World) (mg : Str → Option Value) (h : Heap), (K w.params).In h → h.Ns mainGlobals mg → ∃ C_Lot f_ini_Lot p_prp_Lot_coins f_prp_Lot_coins g_ini_Lot g_prp_Lot_coins f, TxO (K w.params) mg C_Lot f_ini_Lot p_prp_Lot_coins f_prp_Lot_coins g_ini_Lot g_prp_Lot_coins ∧ mg "law" = some (.ref f)) :
    PySem.W.WalkO q loose XP YP l.row.toRowW d [] (fun f vs => PySem.call f vs) :=
  walkG (n := 63) (k := 7) (x := "script") (F := F_law) hn (by decide) hdf ⟨⟨rfl, by decide, by decide⟩, rfl⟩ hY hF fun w mg fa h KX G hmg => by
    obtain ⟨_, _, _, _, _, _, _, T, _⟩ := hT w mg h KX G
    rw [hdn] at hmg
    obtain ⟨f0, fd0, F0, m0⟩ := T.d_law
    rw [hmg] at m0
    cases m0
    have bnd : ∀ (s : Shared) (u : Value), BindsTo s fd0 ⟨[u], []⟩ [("script", u)] := by
      obtain ⟨oc, od, kV, doc, pm, an, cdv, ct, osl, rfl, lk, hcd⟩ := F0.ex
      exact fun s u => .of_eq rfl
    refine ⟨fd0, bnd, fun base _ _ => ?_⟩
    obtain ⟨f1, fd1, F1, m1, G1⟩ := ok_law (P := l.prog) (w := w) (base := base) T
    rw [hmg] at m1
    cases m1
    obtain ⟨oc, od, kV, doc, pm, an, cdv, ct, osl, e0, lk0, hcd⟩ := F0.ex
    obtain ⟨oc1, od1, kV1, doc1, pm1, an1, cdv1, ct1, osl1, e1, lk1, hcd1⟩ := F1.ex
    rw [lk0] at lk1
    cases lk1
    exact G1
end Wk
end S52_

section S53_
set_option Elab.async false
set_option linter.all false
set_option maxRecDepth 100000
namespace Wk
open PySem Mv
/-! what each def must come to: by its body -/
theorem w_law_grab {p0 p1 : Mv.Slot} {Q : Mv.Slot → List OV → Prop} (h : wL (b_law_grab [p0, p1, .un, .un]) (fE [0] Q)) : wF (F_law_grab [p0, p1]) Q := wF_fnS 4 [0] b_law_grab [p0, p1] Q h
theorem w_law_some {p0 p1 : Mv.Slot} {Q : Mv.Slot → List OV → Prop} (h : wL (b_law_some [p0, p1]) (fE [0] Q)) : wF (F_law_some [p0, p1]) Q := wF_fnS 2 [0] b_law_some [p0, p1] Q h
theorem w_law_coins {p0 p1 p2 : Mv.Slot} {Q : Mv.Slot → List OV → Prop} (h : wL (b_law_coins [p0, p1, p2, .un, .un]) (fE [0] Q)) : wF (F_law_coins [p0, p1, p2]) Q := wF_fnS 5 [0] b_law_coins [p0, p1, p2] Q h
theorem w_is_integer {p0 : Mv.Slot} {Q : Mv.Slot → List OV → Prop} (h : wL (b_is_integer [p0]) (fE [] Q)) : wF (F_is_integer [p0]) Q := wF_fnS 1 [] b_is_integer [p0] Q h
theorem w_is_within_bounds {p0 p1 p2 : Mv.Slot} {Q : Mv.Slot → List OV → Prop} (h : wL (b_is_within_bounds [p0, p1, p2]) (fE [] Q)) : wF (F_is_within_bounds [p0, p1, p2]) Q := wF_fnS 3 [] b_is_within_bounds [p0, p1, p2] Q h
theorem w_first_wrong {p0 : Mv.Slot} {Q : Mv.Slot → List OV → Prop} (h : wL (b_first_wrong [p0, .un, .un]) (fE [] Q)) : wF (F_first_wrong [p0]) Q := wF_fnS 3 [] b_first_wrong [p0] Q h
theorem w_ini_Lot {p0 p1 : Mv.Slot} {Q : Mv.Slot → List OV → Prop} (h : wL (b_ini_Lot [p0, p1, .un]) (fE [0] Q)) : wF (F_ini_Lot [p0, p1]) Q := wF_fnS 3 [0] b_ini_Lot [p0, p1] Q h
theorem w_law_moves {p0 p1 : Mv.Slot} {Q : Mv.Slot → List OV → Prop} (h : wL (b_law_moves [p0, p1, .un, .un, .un, .un, .un, .un, .un]) (fE [] Q)) : wF (F_law_moves [p0, p1]) Q := wF_fnS 9 [] b_law_moves [p0, p1] Q h
theorem w_law_due {p0 : Mv.Slot} {Q : Mv.Slot → List OV → Prop} (h : wL (b_law_due [p0, .un, .un, .un, .un, .un, .un, .un]) (fE [] Q)) : wF (F_law_due [p0]) Q := wF_fnS 8 [] b_law_due [p0] Q h
theorem w_check_lot {p0 : Mv.Slot} {Q : Mv.Slot → List OV → Prop} (h : wL (b_check_lot [p0]) (fE [] Q)) : wF (F_check_lot [p0]) Q := wF_fnS 1 [] b_check_lot [p0] Q h
theorem w_common_divisor {p0 p1 : Mv.Slot} {Q : Mv.Slot → List OV → Prop} (h : wL (b_common_divisor [p0, p1, .un, .un]) (fE [] Q)) : wF (F_common_divisor [p0, p1]) Q := wF_fnS 4 [] b_common_divisor [p0, p1] Q h
theorem w_eased {p0 p1 p2 : Mv.Slot} {Q : Mv.Slot → List OV → Prop} (h : wL (b_eased [p0, p1, p2, .un, .un, .un, .un, .un, .un]) (fE [0] Q)) : wF (F_eased [p0, p1, p2]) Q := wF_fnS 9 [0] b_eased [p0, p1, p2] Q h
theorem w_least_costs {p0 p1 : Mv.Slot} {Q : Mv.Slot → List OV → Prop} (h : wL (b_least_costs [p0, p1, .un, .un, .un]) (fE [] Q)) : wF (F_least_costs [p0, p1]) Q := wF_fnS 5 [] b_least_costs [p0, p1] Q h
theorem w_least_moves {p0 : Mv.Slot} {Q : Mv.Slot → List OV → Prop} (h : wL (b_least_moves [p0, .un, .un, .un]) (fE [] Q)) : wF (F_least_moves [p0]) Q := wF_fnS 4 [] b_least_moves [p0] Q h
theorem w_prp_Lot_coins {p0 : Mv.Slot} {Q : Mv.Slot → List OV → Prop} (h : wL (b_prp_Lot_coins [p0]) (fE [] Q)) : wF (F_prp_Lot_coins [p0]) Q := wF_fnS 1 [] b_prp_Lot_coins [p0] Q h
theorem w_moved_losses {p0 : Mv.Slot} {Q : Mv.Slot → List OV → Prop} (h : wL (b_moved_losses [p0]) (fE [] Q)) : wF (F_moved_losses [p0]) Q := wF_fnS 1 [] b_moved_losses [p0] Q h
theorem w_worst_rests {p0 : Mv.Slot} {Q : Mv.Slot → List OV → Prop} (h : wL (b_worst_rests [p0, .un, .un, .un, .un]) (fE [] Q)) : wF (F_worst_rests [p0]) Q := wF_fnS 5 [] b_worst_rests [p0] Q h
theorem w_law_right {p0 : Mv.Slot} {Q : Mv.Slot → List OV → Prop} (h : wL (b_law_right [p0, .un, .un, .un, .un, .un, .un, .un]) (fE [0] Q)) : wF (F_law_right [p0]) Q := wF_fnS 8 [0] b_law_right [p0] Q h
theorem w_law_bag {p0 p1 : Mv.Slot} {Q : Mv.Slot → List OV → Prop} (h : wL (b_law_bag [p0, p1, .un, .un, .un, .un]) (fE [] Q)) : wF (F_law_bag [p0, p1]) Q := wF_fnS 6 [] b_law_bag [p0, p1] Q h
theorem w_law {p0 : Mv.Slot} {Q : Mv.Slot → List OV → Prop} (h : wL (b_law [p0, .un]) (fE [] Q)) : wF (F_law [p0]) Q := wF_fnS 2 [] b_law [p0] Q h

end Wk
end S53_

section S54_
set_option Elab.async false
set_option linter.all false
set_option maxRecDepth 100000
namespace Wk
open PySem Mv
/-! ### draws out of a bag -/
def Bag (o : OV) : Prop := ∃ a b c : Int, o = .lst [.int a, .int b, .int c] ∧ 0 ≤ a
theorem Bag.flat {o : OV} (B : Bag o) : flatO o = true := by obtain ⟨a, b, c, rfl, _⟩ := B; rfl
theorem Bag.mk {a b c : Int} (h : 0 ≤ a) : Bag (.lst [.int a, .int b, .int c]) := ⟨a, b, c, rfl, h⟩
theorem grab {o : OV} (B : Bag o) {m : Int} (hm : 0 < m) (h2 : m < 1073741824) : wF (F_law_grab [.ow o, .sh (.int m)]) fun s out => ∃ r o', s = .sh (.int r) ∧ out = [o'] ∧ Bag o' ∧ 0 ≤ r ∧ r < m := by
  obtain ⟨a, b, c, rfl, ha⟩ := B
  refine w_law_grab ?_
  have hn := Int.ne_of_gt hm
  simp -implicitDefEqProofs [-Mv.eM_ap, -Mv.eSl_ap, -Mv.iSeq_ap, b_law_grab, L2.ixN, L2.atI, divOk, hm, h2]
  refine ⟨fun h => ⟨.mk (Int.ediv_nonneg ha (Int.le_of_lt hm)), Int.emod_nonneg _ hn, Int.emod_lt_of_pos _ hm⟩, fun h => ⟨mulOr_r (by omega) (by omega), .mk ha, Int.emod_nonneg _ hn, Int.emod_lt_of_pos _ hm⟩⟩
theorem some1 {o : OV} (B : Bag o) {ps : List PV} (h0 : 0 < ps.length) (h1 : ps.length < 1000000) (t : PV) (ht : t = .lst ps ∨ t = .tup ps) : wF (F_law_some [.ow o, .sh t]) fun s out => ∃ p o', s = .sh p ∧ out = [o'] ∧ p ∈ ps ∧ Bag o' := by
  refine w_law_some ?_
  rcases ht with rfl | rfl <;>
  · simp -implicitDefEqProofs [-Mv.eM_ap, -Mv.eSl_ap, -Mv.iSeq_ap, b_law_some]
    refine wF_mono (grab B (m := ps.length) (by omega) (by omega)) ?_
    rintro s out ⟨r, o', rfl, rfl, B', r0, r1⟩
    have hr : r.toNat < ps.length := by omega
    simp -implicitDefEqProofs [-Mv.eM_ap, -Mv.eSl_ap, -Mv.iSeq_ap, at_nat r0 (List.getElem?_eq_getElem hr), B']
theorem bag {ns : List Int} {k : Nat} : wF (F_law_bag [.sh (.lst (ns.map .int)), .sh (.int k)]) fun s out => ∃ o, s = .ow o ∧ out = [] ∧ Bag o := by
  refine w_law_bag ?_
  unfold b_law_bag
  refine w_cut (fun Γ => ∃ own : Int, Γ = [.sh (.lst (ns.map .int)), .sh (.int k), .sh (.int own), .un, .un, .un]) ?_ ?_
  · simp -implicitDefEqProofs [-Mv.eM_ap, -Mv.eSl_ap, -Mv.iSeq_ap]
    exact fun h => by simp -implicitDefEqProofs [-Mv.eM_ap, -Mv.eSl_ap, -Mv.iSeq_ap, at_map (em := PV.int) (Int.natCast_nonneg k) (List.getElem?_eq_getElem h)]
  · rintro _ ⟨own, rfl⟩
    simp -implicitDefEqProofs [-Mv.eM_ap, -Mv.eSl_ap, -Mv.iSeq_ap, cutP_map]
    refine w_for0 (fun _ Γ => ∃ (st : Int) (c : Mv.Slot), Γ = [.sh (.lst (ns.map .int)), .sh (.int k), .sh (.int own), .sh (.int st), c, .un]) ⟨_, _, rfl⟩ ?_ ?_
    · rintro i x Γ hx ⟨st, c, rfl⟩
      simp -implicitDefEqProofs [-Mv.eM_ap, -Mv.eSl_ap, -Mv.iSeq_ap, mulOr_r]
    · rintro Γ ⟨st, c, rfl⟩
      simp -implicitDefEqProofs [-Mv.eM_ap, -Mv.eSl_ap, -Mv.iSeq_ap, mulOr_r]
      exact ⟨fun h => .mk (by omega), fun h => ⟨fun h => .mk (by omega), fun h => .mk (by omega)⟩⟩

end Wk
end S54_

section S55_
set_option Elab.async false
set_option linter.all false
set_option maxRecDepth 100000
namespace Wk
open PySem Mv
/-- a list of ints, ascending, within bounds -/
structure Asc (cs : List Int) (lo hi : Int) : Prop where
  pw : cs.Pairwise (· < ·)
  rg : ∀ c ∈ cs, lo ≤ c ∧ c ≤ hi
theorem coins {o : OV} (B : Bag o) {many top : Int} (hm : 0 < many) (hm2 : many < 1000) (ht : 3 ≤ top) (ht2 : top < 1000) : wF (F_law_coins [.ow o, .sh (.int many), .sh (.int top)]) fun s out => ∃ cs o', s = .sh (.tup (cs.map .int)) ∧ out = [o'] ∧ Bag o' ∧ Asc cs 1 top ∧ cs ≠ [] ∧ cs.length ≤ many := by
  refine w_law_coins ?_
  unfold b_law_coins
  refine w_cut (fun Γ => ∃ (by' : Int) (o' : OV), 1 ≤ by' ∧ by' ≤ 3 ∧ Bag o' ∧ Γ = [.ow o', .sh (.int many), .sh (.int top), .sh (.int by'), .un]) ?_ ?_
  · simp -implicitDefEqProofs [-Mv.eM_ap, -Mv.eSl_ap, -Mv.iSeq_ap]
    refine wF_mono (some1 B (by decide) (by decide) _ (.inl rfl)) ?_
    rintro s out ⟨p, o', rfl, rfl, hp, B'⟩
    simp at hp
    rcases hp with rfl | rfl | rfl
    · simp -implicitDefEqProofs [-Mv.eM_ap, -Mv.eSl_ap, -Mv.iSeq_ap]; exact ⟨1, by decide, by decide, o', B', rfl, rfl⟩
    · simp -implicitDefEqProofs [-Mv.eM_ap, -Mv.eSl_ap, -Mv.iSeq_ap]; exact ⟨2, by decide, by decide, o', B', rfl, rfl⟩
    · simp -implicitDefEqProofs [-Mv.eM_ap, -Mv.eSl_ap, -Mv.iSeq_ap]; exact ⟨3, by decide, by decide, o', B', rfl, rfl⟩
  · rintro _ ⟨by', o', h1, h3, B', rfl⟩
    simp -implicitDefEqProofs [-Mv.eM_ap, -Mv.eSl_ap, -Mv.iSeq_ap]
    refine wF_mono (grab B' hm (by omega)) ?_
    rintro s out ⟨r, o', rfl, rfl, B', r0, r1⟩
    simp -implicitDefEqProofs [-Mv.eM_ap, -Mv.eSl_ap, -Mv.iSeq_ap]
    refine ⟨rg_t (by omega) (by omega), ?_⟩
    obtain ⟨n, hn⟩ : ∃ n : Nat, 1 + r = (n : Int) := ⟨(1 + r).toNat, by omega⟩
    rw [hn, rgL0]
    refine w_lc0 (fun i acc Γ => ∃ (cs : List Int) (o' : OV), acc = cs.map PV.int ∧ cs.length = i ∧ (∀ c ∈ cs, 1 ≤ c ∧ c ≤ top) ∧ Bag o' ∧ Γ = [.ow o', .sh (.int many), .sh (.int top), .sh (.int by'), .un])
      ⟨[], o', rfl, rfl, by simp -implicitDefEqProofs [-Mv.eM_ap, -Mv.eSl_ap, -Mv.iSeq_ap], B', rfl⟩ (le_sz (by simp -implicitDefEqProofs [-Mv.eM_ap, -Mv.eSl_ap, -Mv.iSeq_ap]; omega)) ?_ ?_
    · rintro i x acc Γ hx ⟨cs, o', rfl, hl, hc, B', rfl⟩
      simp -implicitDefEqProofs [-Mv.eM_ap, -Mv.eSl_ap, -Mv.iSeq_ap]
      have hq : 1 ≤ top / by' := (Int.le_ediv_iff_mul_le (by omega)).mpr (by omega)
      have hq2 : top / by' ≤ top := Int.ediv_le_self _ (by omega)
      refine ⟨⟨by omega, by omega⟩, wF_mono (grab B' (by omega) (by omega)) ?_⟩
      rintro s out ⟨r, o', rfl, rfl, B', r0, r1⟩
      simp -implicitDefEqProofs [-Mv.eM_ap, -Mv.eSl_ap, -Mv.iSeq_ap]
      have hb : by' * (top / by') ≤ top := Int.mul_ediv_self_le (by omega)
      have hb2 : by' * (1 + r) ≤ by' * (top / by') := Int.mul_le_mul_of_nonneg_left (by omega) (by omega)
      have hb3 : 1 * 1 ≤ by' * (1 + r) := Int.mul_le_mul h1 (by omega) (by omega) (by omega)
      refine ⟨mulOr_l (by omega) (by omega), cs ++ [by' * (1 + r)], by simp -implicitDefEqProofs [-Mv.eM_ap, -Mv.eSl_ap, -Mv.iSeq_ap], by simp -implicitDefEqProofs [-Mv.eM_ap, -Mv.eSl_ap, -Mv.iSeq_ap, hl], fun c hcm => ?_, B'⟩
      rcases List.mem_append.mp hcm with h | h
      · exact hc c h
      · rw [List.mem_singleton.mp h]; omega
    · rintro acc Γ ⟨cs, o', rfl, hl, hc, B', rfl⟩
      simp at hl
      simp -implicitDefEqProofs [-Mv.eM_ap, -Mv.eSl_ap, -Mv.iSeq_ap, show cs.length < 4000 by omega]
      refine ⟨sset cs, rfl, B', ⟨sset_asc cs, fun c h => hc c ((sset_mem c cs).mp h)⟩, fun h => ?_, ?_⟩
      · have h2 : 0 < cs.length := by omega
        have h3 := (sset_mem _ cs).mpr (List.getElem_mem h2)
        rw [h] at h3
        exact absurd h3 (by simp -implicitDefEqProofs [-Mv.eM_ap, -Mv.eSl_ap, -Mv.iSeq_ap])
      · have := sset_len cs
        omega

end Wk
end S55_

section S56_
set_option Elab.async false
set_option linter.all false
set_option maxRecDepth 100000
namespace Wk
open PySem Mv
/-! ### values, lots -/
theorem kii : L2.kitB "int" "int" = some true := by decide +kernel
theorem kib : L2.kitB "int" "bool" = some false := by decide +kernel
theorem ktt : L2.kitB "tuple" "tuple" = some true := by decide +kernel
theorem isint (i : Int) : F_is_integer [.sh (.int i)] = .ret (.sh (.bl true)) [] := wF_eq (w_is_integer (by
  simp -implicitDefEqProofs [-Mv.eM_ap, -Mv.eSl_ap, -Mv.iSeq_ap, b_is_integer, tyT, tyP, kii, kib]))
theorem within (i a b : Int) : F_is_within_bounds [.sh (.int i), .sh (.int a), .sh (.int b)] = .ret (.sh (.bl (decide (a ≤ i ∧ i ≤ b)))) [] := wF_eq (w_is_within_bounds (by
  simp -implicitDefEqProofs [-Mv.eM_ap, -Mv.eSl_ap, -Mv.iSeq_ap, b_is_within_bounds, isint]
  by_cases h : a ≤ i <;> simp -implicitDefEqProofs [-Mv.eM_ap, -Mv.eSl_ap, -Mv.iSeq_ap, h] <;> omega))
def lotV (cs : List Int) : PV := .ins "Lot" ["kinds"] [.tup (cs.map .int)]
def lotO (cs : List Int) : OV := .ins "Lot" ["kinds"] [.tup (cs.map .int)]
theorem lot_coins (cs : List Int) : F_prp_Lot_coins [.sh (lotV cs)] = .ret (.sh (.tup (cs.map .int))) [] := wF_eq (w_prp_Lot_coins (by
  simp -implicitDefEqProofs [-Mv.eM_ap, -Mv.eSl_ap, -Mv.iSeq_ap, b_prp_Lot_coins, lotV, lookP]))
theorem lot_check (cs : List Int) : F_check_lot [.sh (lotV cs)] = .ret (.sh .non) [] := wF_eq (w_check_lot (by
  simp -implicitDefEqProofs [-Mv.eM_ap, -Mv.eSl_ap, -Mv.iSeq_ap, b_check_lot, lotV, tyT]))
theorem first_ok {cs : List Int} (h : Asc cs 1 60) (hl : cs.length ≤ 15) : F_first_wrong [.sh (.tup (cs.map .int))] = .ret (.sh .non) [] := wF_eq (w_first_wrong (by
  simp -implicitDefEqProofs [-Mv.eM_ap, -Mv.eSl_ap, -Mv.iSeq_ap, b_first_wrong, enumL_map]
  refine w_for0 (fun _ Γ => ∃ x y, Γ = [.sh (.tup (cs.map .int)), x, y]) ⟨_, _, rfl⟩ ?_ ?_
  · rintro i z Γ hz ⟨x, y, rfl⟩
    obtain ⟨hi, ez⟩ := List.getElem?_eq_some_iff.mp hz
    have hi : i < cs.length := by simpa using hi
    have ez : z = (cs[i], i) := by rw [← ez]; simp -implicitDefEqProofs [-Mv.eM_ap, -Mv.eSl_ap, -Mv.iSeq_ap]
    subst ez
    have hr := h.rg cs[i] (List.getElem_mem hi)
    have hne : ¬ ((i : Int) = 15) := by omega
    simp -implicitDefEqProofs [-Mv.eM_ap, -Mv.eSl_ap, -Mv.iSeq_ap, hne, within, hr]
    intro h0
    have h1 : cs[i - 1] < cs[i] := List.pairwise_iff_getElem.mp h.pw (i - 1) i (by omega) hi (by omega)
    have e2 : L2.atI (cs.map PV.int) ((i : Int) - 1) = some (.int cs[i - 1]) := at_map (em := PV.int) (by omega) (by rw [show ((i : Int) - 1).toNat = i - 1 by omega]; exact List.getElem?_eq_getElem (by omega))
    simp -implicitDefEqProofs [-Mv.eM_ap, -Mv.eSl_ap, -Mv.iSeq_ap, e2, show ¬ (cs[i] ≤ cs[i - 1]) by omega]
  · rintro Γ ⟨x, y, rfl⟩
    simp -implicitDefEqProofs [-Mv.eM_ap, -Mv.eSl_ap, -Mv.iSeq_ap]))
theorem lot_new {cs : List Int} (h : Asc cs 1 60) (hl : cs.length ≤ 15) (h0 : cs ≠ []) : F_ini_Lot [.ow (.ins "Lot" [] []), .sh (.tup (cs.map .int))] = .ret (.sh .non) [lotO cs] := wF_eq (w_ini_Lot (by
  simp -implicitDefEqProofs [-Mv.eM_ap, -Mv.eSl_ap, -Mv.iSeq_ap, b_ini_Lot, tyT, tyP, ktt, h0, first_ok h hl, putN, putP, lotO]))
@[simp] theorem lotO_pv (cs : List Int) : OV.pv (lotO cs) = lotV cs := rfl
@[simp] theorem lot_cls (cs : List Int) : isCls (fun x => x == "Lot") (lotV cs) = true := rfl

end Wk
end S56_

section S57_
set_option Elab.async false
set_option linter.all false
set_option maxRecDepth 100000
namespace Wk
open PySem Mv
/-! ### common divisors -/
theorem common_divisor (a b : Nat) : F_common_divisor [.sh (.int a), .sh (.int b)] = .ret (.sh (.int (Nat.gcd a b : Nat))) [] := wF_eq (w_common_divisor (by
  simp -implicitDefEqProofs [-Mv.eM_ap, -Mv.eSl_ap, -Mv.iSeq_ap, b_common_divisor]
  refine w_while (fun n Γ => ∃ x : Nat, Nat.gcd n x = Nat.gcd a b ∧ Γ = [.sh (.int a), .sh (.int b), .sh (.int x), .sh (.int n)]) ?_ b _ ⟨a, Nat.gcd_comm b a, rfl⟩
  rintro n Γ ⟨x, hg, rfl⟩
  simp -implicitDefEqProofs [-Mv.eM_ap, -Mv.eSl_ap, -Mv.iSeq_ap]
  refine ⟨fun h => ⟨h, x % n, Nat.mod_lt _ h, n, ?_, rfl, rfl⟩, fun h => ?_⟩
  · rw [← hg, Nat.gcd_rec n x]
  · subst h; rw [← hg, Nat.gcd_zero_left]))

end Wk
end S57_

section S58_
set_option Elab.async false
set_option linter.all false
set_option maxRecDepth 100000
namespace Wk
open PySem Mv
/-! ### payments: n coins that come to t -/
inductive Pay (cs : List Int) : Int → Int → Prop
  | nil : Pay cs 0 0
  | cons {c n t : Int} : c ∈ cs → Pay cs n t → Pay cs (n + 1) (t + c)
theorem Pay.mono {cs ds : List Int} (h : ∀ c ∈ cs, c ∈ ds) {n t : Int} (p : Pay cs n t) : Pay ds n t := by
  induction p with
  | nil => exact .nil
  | cons hc _ ih => exact .cons (h _ hc) ih
theorem Pay.pos {cs : List Int} (h : ∀ c ∈ cs, 1 ≤ c) {n t : Int} (p : Pay cs n t) : 0 ≤ n ∧ n ≤ t := by
  induction p with
  | nil => omega
  | cons hc _ ih => have := h _ hc; omega
theorem Pay.low {cs : List Int} {l : Int} (h : ∀ c ∈ cs, l ≤ c) {n t : Int} (p : Pay cs n t) : l * n ≤ t := by
  induction p with
  | nil => omega
  | cons hc _ ih => have := h _ hc; rw [Int.mul_add]; omega
theorem Pay.high {cs : List Int} {l : Int} (h : ∀ c ∈ cs, c ≤ l) {n t : Int} (p : Pay cs n t) : t ≤ l * n := by
  induction p with
  | nil => omega
  | cons hc _ ih => have := h _ hc; rw [Int.mul_add]; omega
theorem Pay.nonneg {cs : List Int} (h : ∀ c ∈ cs, 1 ≤ c) {n t : Int} (p : Pay cs n t) : 0 ≤ n ∧ 0 ≤ t := by have := p.pos h; omega
theorem Pay.zero {cs : List Int} (h : ∀ c ∈ cs, 1 ≤ c) {n : Int} (p : Pay cs n 0) : n = 0 := by have := p.pos h; omega
theorem Pay.last {cs : List Int} {n t : Int} (p : Pay cs n t) : (n = 0 ∧ t = 0) ∨ ∃ c ∈ cs, Pay cs (n - 1) (t - c) := by
  cases p with
  | nil => exact .inl ⟨rfl, rfl⟩
  | @cons c n t hc p => exact .inr ⟨c, hc, by rw [Int.add_sub_cancel, Int.add_sub_cancel]; exact p⟩
theorem Pay.more {cs : List Int} {c n t : Int} (hc : c ∈ cs) (p : Pay cs (n - 1) (t - c)) : Pay cs n t := by
  have := Pay.cons hc p
  rw [Int.sub_add_cancel, Int.sub_add_cancel] at this
  exact this
/-- with a coin c more: without it, or one of it taken away -/
theorem Pay.split {cs ds : List Int} {c : Int} (hd : ∀ x ∈ ds, x ∈ cs ∨ x = c) {n t : Int} (p : Pay ds n t) : Pay cs n t ∨ Pay ds (n - 1) (t - c) := by
  induction p with
  | nil => exact .inl .nil
  | @cons x n t hx p ih =>
    rcases hd x hx with h | h
    · rcases ih with q | q
      · exact .inl (.cons h q)
      · refine .inr ?_
        have := Pay.cons hx q
        rw [show n - 1 + 1 = n + 1 - 1 by omega, show t - c + x = t + x - c by omega] at this
        exact this
    · subst h
      exact .inr (by rw [Int.add_sub_cancel, Int.add_sub_cancel]; exact p)
theorem Pay.many {cs : List Int} {c : Int} (hc : c ∈ cs) : ∀ k : Nat, Pay cs k (c * k)
  | 0 => by
    have : Pay cs 0 0 := .nil
    simpa using this
  | k + 1 => by
    have := Pay.cons hc (Pay.many hc k)
    rw [show ((k + 1 : Nat) : Int) = (k : Int) + 1 by omega, Int.mul_add, Int.mul_one]
    exact this
/-- the least length of t, None if t is missed -/
def IsFew (cs : List Int) (t : Int) : Option Int → Prop
  | none => ∀ n, ¬ Pay cs n t
  | some f => Pay cs f t ∧ ∀ n, Pay cs n t → f ≤ n
def IsMany (cs : List Int) (t : Int) : Option Int → Prop
  | none => ∀ n, ¬ Pay cs n t
  | some f => Pay cs f t ∧ ∀ n, Pay cs n t → n ≤ f
theorem IsFew.one {cs : List Int} {t : Int} {v w : Option Int} (h : IsFew cs t v) (h' : IsFew cs t w) : v = w := by
  cases v with
  | none =>
    cases w with
    | none => rfl
    | some f => exact absurd h'.1 (h f)
  | some f =>
    cases w with
    | none => exact absurd h.1 (h' f)
    | some g => have := h.2 g h'.1; have := h'.2 f h.1; rw [show f = g by omega]
theorem IsMany.one {cs : List Int} {t : Int} {v w : Option Int} (h : IsMany cs t v) (h' : IsMany cs t w) : v = w := by
  cases v with
  | none =>
    cases w with
    | none => rfl
    | some f => exact absurd h'.1 (h f)
  | some f =>
    cases w with
    | none => exact absurd h.1 (h' f)
    | some g => have := h.2 g h'.1; have := h'.2 f h.1; rw [show f = g by omega]
theorem IsFew.congr {cs ds : List Int} (h : ∀ x, x ∈ cs ↔ x ∈ ds) {t : Int} {v : Option Int} (p : IsFew cs t v) : IsFew ds t v := by
  have e : ∀ n, Pay cs n t ↔ Pay ds n t := fun n => ⟨Pay.mono fun c hc => (h c).mp hc, Pay.mono fun c hc => (h c).mpr hc⟩
  cases v with
  | none => exact fun n q => p n ((e n).mpr q)
  | some f => exact ⟨(e f).mp p.1, fun n q => p.2 n ((e n).mpr q)⟩
theorem IsMany.congr {cs ds : List Int} (h : ∀ x, x ∈ cs ↔ x ∈ ds) {t : Int} {v : Option Int} (p : IsMany cs t v) : IsMany ds t v := by
  have e : ∀ n, Pay cs n t ↔ Pay ds n t := fun n => ⟨Pay.mono fun c hc => (h c).mp hc, Pay.mono fun c hc => (h c).mpr hc⟩
  cases v with
  | none => exact fun n q => p n ((e n).mpr q)
  | some f => exact ⟨(e f).mp p.1, fun n q => p.2 n ((e n).mpr q)⟩
/-- one coin c more, the sum t - c known -/
def oMin (v w : Option Int) : Option Int := match v, w with
  | none, w => w
  | some a, none => some a
  | some a, some b => some (min a b)
def oMax (v w : Option Int) : Option Int := match v, w with
  | none, w => w
  | some a, none => some a
  | some a, some b => some (max a b)
theorem IsFew.step {cs ds : List Int} {c : Int} (hd : ∀ x, x ∈ ds ↔ x ∈ cs ∨ x = c) {t : Int} {v w : Option Int} (h : IsFew cs t v) (h' : IsFew ds (t - c) w) : IsFew ds t (oMin v (w.map (· + 1))) := by
  have hsub : ∀ n, Pay cs n t → Pay ds n t := fun n => Pay.mono fun x hx => (hd x).mpr (.inl hx)
  have hc : c ∈ ds := (hd c).mpr (.inr rfl)
  have split : ∀ n, Pay ds n t → Pay cs n t ∨ Pay ds (n - 1) (t - c) := fun n => Pay.split fun x hx => (hd x).mp hx
  have add : ∀ n, Pay ds n (t - c) → Pay ds (n + 1) t := fun n p => Pay.more hc (by rw [Int.add_sub_cancel]; exact p)
  cases v with
  | none =>
    cases w with
    | none => exact fun n p => (split n p).elim (h n) (h' _)
    | some b =>
      refine ⟨add b h'.1, fun n p => ?_⟩
      show b + 1 ≤ n
      rcases split n p with q | q
      · exact absurd q (h n)
      · have := h'.2 _ q; omega
  | some a =>
    cases w with
    | none =>
      refine ⟨hsub _ h.1, fun n p => ?_⟩
      rcases split n p with q | q
      · exact h.2 n q
      · exact absurd q (h' _)
    | some b =>
      refine ⟨?_, fun n p => ?_⟩
      · show Pay ds (min a (b + 1)) t
        rcases Int.le_total a (b + 1) with c | c
        · rw [Int.min_eq_left c]; exact hsub _ h.1
        · rw [Int.min_eq_right c]; exact add b h'.1
      · show min a (b + 1) ≤ n
        rcases split n p with q | q
        · have := h.2 n q; omega
        · have := h'.2 _ q; omega
theorem IsMany.step {cs ds : List Int} {c : Int} (hd : ∀ x, x ∈ ds ↔ x ∈ cs ∨ x = c) {t : Int} {v w : Option Int} (h : IsMany cs t v) (h' : IsMany ds (t - c) w) : IsMany ds t (oMax v (w.map (· + 1))) := by
  have hsub : ∀ n, Pay cs n t → Pay ds n t := fun n => Pay.mono fun x hx => (hd x).mpr (.inl hx)
  have hc : c ∈ ds := (hd c).mpr (.inr rfl)
  have split : ∀ n, Pay ds n t → Pay cs n t ∨ Pay ds (n - 1) (t - c) := fun n => Pay.split fun x hx => (hd x).mp hx
  have add : ∀ n, Pay ds n (t - c) → Pay ds (n + 1) t := fun n p => Pay.more hc (by rw [Int.add_sub_cancel]; exact p)
  cases v with
  | none =>
    cases w with
    | none => exact fun n p => (split n p).elim (h n) (h' _)
    | some b =>
      refine ⟨add b h'.1, fun n p => ?_⟩
      show n ≤ b + 1
      rcases split n p with q | q
      · exact absurd q (h n)
      · have := h'.2 _ q; omega
  | some a =>
    cases w with
    | none =>
      refine ⟨hsub _ h.1, fun n p => ?_⟩
      rcases split n p with q | q
      · exact h.2 n q
      · exact absurd q (h' _)
    | some b =>
      refine ⟨?_, fun n p => ?_⟩
      · show Pay ds (max a (b + 1)) t
        rcases Int.le_total a (b + 1) with c | c
        · rw [Int.max_eq_right c]; exact add b h'.1
        · rw [Int.max_eq_left c]; exact hsub _ h.1
      · show n ≤ max a (b + 1)
        rcases split n p with q | q
        · have := h.2 n q; omega
        · have := h'.2 _ q; omega
/-- of a sum below the coin -/
theorem IsFew.below {cs ds : List Int} {c : Int} (hd : ∀ x, x ∈ ds ↔ x ∈ cs ∨ x = c) (hp : ∀ x ∈ ds, 1 ≤ x) {t : Int} (ht : t < c) {v : Option Int} (h : IsFew cs t v) : IsFew ds t v := by
  have e : ∀ n, Pay ds n t → Pay cs n t := fun n p => (Pay.split (fun x hx => (hd x).mp hx) p).elim id fun q => by have := q.nonneg hp; omega
  have hsub : ∀ n, Pay cs n t → Pay ds n t := fun n => Pay.mono fun x hx => (hd x).mpr (.inl hx)
  cases v with
  | none => exact fun n p => h n (e n p)
  | some a => exact ⟨hsub _ h.1, fun n p => h.2 n (e n p)⟩
theorem IsMany.below {cs ds : List Int} {c : Int} (hd : ∀ x, x ∈ ds ↔ x ∈ cs ∨ x = c) (hp : ∀ x ∈ ds, 1 ≤ x) {t : Int} (ht : t < c) {v : Option Int} (h : IsMany cs t v) : IsMany ds t v := by
  have e : ∀ n, Pay ds n t → Pay cs n t := fun n p => (Pay.split (fun x hx => (hd x).mp hx) p).elim id fun q => by have := q.nonneg hp; omega
  have hsub : ∀ n, Pay cs n t → Pay ds n t := fun n => Pay.mono fun x hx => (hd x).mpr (.inl hx)
  cases v with
  | none => exact fun n p => h n (e n p)
  | some a => exact ⟨hsub _ h.1, fun n p => h.2 n (e n p)⟩
theorem few_nil {t : Int} : IsFew [] t (if t = 0 then some 0 else none) := by
  have e : ∀ n t, Pay [] n t → n = 0 ∧ t = 0 := fun n t p => by
    cases p with
    | nil => exact ⟨rfl, rfl⟩
    | cons hc _ => exact absurd hc (by simp)
  by_cases h : t = 0
  · rw [if_pos h, h]
    exact ⟨.nil, fun n p => by have := e _ _ p; omega⟩
  · rw [if_neg h]
    exact fun n p => h (e _ _ p).2
theorem many_nil {t : Int} : IsMany [] t (if t = 0 then some 0 else none) := by
  have e : ∀ n t, Pay [] n t → n = 0 ∧ t = 0 := fun n t p => by
    cases p with
    | nil => exact ⟨rfl, rfl⟩
    | cons hc _ => exact absurd hc (by simp)
  by_cases h : t = 0
  · rw [if_pos h, h]
    exact ⟨.nil, fun n p => by have := e _ _ p; omega⟩
  · rw [if_neg h]
    exact fun n p => h (e _ _ p).2
/-! ### tables of numbers or None -/
def oi : Option Int → PV
  | none => .non
  | some i => .int i
@[simp] theorem oi_none : oi none = .non := rfl
@[simp] theorem oi_some (i : Int) : oi (some i) = .int i := rfl
@[simp] theorem oi_nonP (v : Option Int) : isNonP (oi v) = v.isNone := by cases v <;> rfl
/-- T is a table of v's with P t v, from 0 to m -/
structure Tab (P : Int → Option Int → Prop) (m : Nat) (T : List (Option Int)) : Prop where
  len : T.length = m + 1
  at' : ∀ (i : Nat) v, T[i]? = some v → P i v
theorem Tab.get {P : Int → Option Int → Prop} {m : Nat} {T : List (Option Int)} (h : Tab P m T) {i : Int} (h0 : 0 ≤ i) (h1 : i ≤ m) : ∃ v, L2.atI (T.map oi) i = some (oi v) ∧ T[i.toNat]? = some v ∧ P i v := by
  have hl : i.toNat < T.length := by rw [h.len]; omega
  refine ⟨T[i.toNat], at_map h0 (List.getElem?_eq_getElem hl), List.getElem?_eq_getElem hl, ?_⟩
  have := h.at' i.toNat _ (List.getElem?_eq_getElem hl)
  rwa [Int.toNat_of_nonneg h0] at this
theorem Tab.set {P P' : Int → Option Int → Prop} {m : Nat} {T : List (Option Int)} (h : Tab P m T) {i : Nat} {v : Option Int} (hi : i ≤ m) (hv : P' i v) (ho : ∀ (j : Nat) w, j ≠ i → P j w → P' j w) : Tab P' m (T.set i v) := by
  refine ⟨by rw [List.length_set]; exact h.len, fun j w hw => ?_⟩
  rw [List.getElem?_set] at hw
  by_cases e : i = j
  · subst e
    rw [if_pos rfl, if_pos (by rw [h.len]; omega)] at hw
    cases hw
    exact hv
  · rw [if_neg e] at hw
    exact ho j w (fun h => e h.symm) (h.at' j w hw)
theorem Tab.set' {P P' : Int → Option Int → Prop} {m : Nat} {T : List (Option Int)} (h : Tab P m T) {i : Nat} {v : Option Int} (hi : i ≤ m) (hv : P' i v) (ho : ∀ (j : Nat) w, j ≤ m → j ≠ i → P j w → P' j w) : Tab P' m (T.set i v) := by
  refine ⟨by rw [List.length_set]; exact h.len, fun j w hw => ?_⟩
  have hjm : j ≤ m := by have := (List.getElem?_eq_some_iff.mp hw).1; rw [List.length_set, h.len] at this; omega
  rw [List.getElem?_set] at hw
  by_cases e : i = j
  · subst e
    rw [if_pos rfl, if_pos (by rw [h.len]; omega)] at hw
    cases hw
    exact hv
  · rw [if_neg e] at hw
    exact ho j w hjm (fun h => e h.symm) (h.at' j w hw)
theorem set_self'' {α : Type} {T : List α} {i : Nat} {v : α} (h : T[i]? = some v) : T.set i v = T := by
  apply List.ext_getElem?
  intro j
  rw [List.getElem?_set]
  by_cases e : i = j
  · subst e
    rw [if_pos rfl]
    obtain ⟨hl, h2⟩ := List.getElem?_eq_some_iff.mp h
    rw [if_pos hl, h]
  · rw [if_neg e]
theorem oMin_n (a : Option Int) : oMin a none = a := by cases a <;> rfl
theorem oMax_n (a : Option Int) : oMax a none = a := by cases a <;> rfl
theorem Tab.imp {P P' : Int → Option Int → Prop} {m : Nat} {T : List (Option Int)} (h : Tab P m T) (ho : ∀ (j : Nat) w, j ≤ m → P j w → P' j w) : Tab P' m T :=
  ⟨h.len, fun j w hw => ho j w (by have := (List.getElem?_eq_some_iff.mp hw).1; rw [h.len] at this; omega) (h.at' j w hw)⟩
theorem map_set_oi {T : List (Option Int)} {i : Nat} {v : Option Int} {p : PV} (hp : p = oi v) : (T.map oi).set i p = (T.set i v).map oi := by rw [hp, List.map_set]
/-- [0] + [None] * m -/
theorem tab0 (m : Nat) : Tab (fun t v => v = if t = 0 then some 0 else none) m (some 0 :: List.replicate m none) := by
  refine ⟨by simp, fun i v h => ?_⟩
  cases i with
  | zero => simp at h; rw [← h]; rfl
  | succ i =>
    rw [List.getElem?_cons_succ, List.getElem?_replicate] at h
    by_cases c : i < m
    · rw [if_pos c] at h
      cases h
      rw [if_neg (by omega)]
    · rw [if_neg c] at h; cases h

end Wk
end S58_

section S59_
set_option Elab.async false
set_option linter.all false
set_option maxRecDepth 100000
namespace Wk
open PySem Mv
/-! ### tables of costs by rests -/
theorem bezout : ∀ m n : Nat, ∃ x y : Int, (m : Int) * x + n * y = (Nat.gcd m n : Nat) := by
  intro m n
  induction m, n using Nat.gcd.induction with
  | H0 n => exact ⟨0, 1, by simp⟩
  | H1 m n hm ih =>
    obtain ⟨x, y, h⟩ := ih
    refine ⟨y - (n / m : Nat) * x, x, ?_⟩
    rw [Nat.gcd_rec m n, ← h]
    have e : (n : Int) = m * (n / m : Nat) + (n % m : Nat) := by
      rw [← Int.natCast_mul, ← Int.natCast_add, Nat.div_add_mod]
    generalize ((n / m : Nat) : Int) = q at *
    generalize ((n % m : Nat) : Int) = r at *
    rw [e, Int.mul_sub, Int.add_mul, Int.mul_assoc]
    omega
/-- the place behind i steps -/
def pos (n s st : Int) (i : Int) : Int := (st + i * s) % n
theorem pos_lt {n s st i : Int} (hn : 0 < n) : 0 ≤ pos n s st i ∧ pos n s st i < n := ⟨Int.emod_nonneg _ (by omega), Int.emod_lt_of_pos _ hn⟩
theorem pos_step (n s st i : Int) : (pos n s st i + s) % n = pos n s st (i + 1) := by
  unfold pos
  rw [Int.emod_add_emod, Int.add_mul, Int.one_mul, Int.add_assoc]
theorem pos_add (n s st i k : Int) : (pos n s st i + k * s) % n = pos n s st (i + k) := by
  unfold pos
  rw [Int.emod_add_emod, Int.add_mul, Int.add_assoc]
theorem pos_per {n s st i z n0 w : Int} (h : n0 * s = n * w) : pos n s st (i + n0 * z) = pos n s st i := by
  unfold pos
  have : st + (i + n0 * z) * s = st + i * s + n * (w * z) := by
    rw [Int.add_mul, Int.mul_assoc, Int.mul_comm z s, ← Int.mul_assoc, h, Int.mul_assoc, Int.add_assoc]
  rw [this, Int.add_mul_emod_self_left]
/-- each place stands on the way from a start below the divisor -/
theorem pos_all {n s : Nat} (hn : 0 < n) {q : Int} (h0 : 0 ≤ q) (h1 : q < n) : ∃ st j : Nat, st < Nat.gcd s n ∧ j < n / Nat.gcd s n ∧ pos n s st j = q := by
  have hg : 0 < Nat.gcd s n := Nat.gcd_pos_of_pos_right _ hn
  obtain ⟨x, y, hb⟩ := bezout s n
  obtain ⟨a, ha⟩ := Nat.gcd_dvd_left s n
  obtain ⟨b, hbb⟩ := Nat.gcd_dvd_right s n
  have hn0 : n / Nat.gcd s n = b := Nat.div_eq_of_eq_mul_right hg hbb
  rw [hn0]
  have hb0 : 0 < b := by
    rcases Nat.eq_zero_or_pos b with e | e
    · rw [e, Nat.mul_zero] at hbb; omega
    · exact e
  generalize Nat.gcd s n = g at *
  obtain ⟨p, rfl⟩ : ∃ p : Nat, q = p := ⟨q.toNat, by omega⟩
  let w : Int := x * (p / g : Nat)
  have hj := Int.emod_nonneg w (show (b : Int) ≠ 0 by omega)
  have hj2 := Int.emod_lt_of_pos w (show (0 : Int) < b by omega)
  refine ⟨p % g, (w % b).toNat, Nat.mod_lt _ hg, by omega, ?_⟩
  rw [Int.toNat_of_nonneg hj]
  have e1 : pos n s (p % g : Nat) (w % b) = pos n s (p % g : Nat) w := by
    have e2 : w = w % b + b * (w / b) := (Int.emod_add_mul_ediv w b).symm
    have e3 : (b : Int) * s = n * a := by
      rw [hbb, ha, ← Int.natCast_mul, ← Int.natCast_mul]
      congr 1
      rw [Nat.mul_comm b, Nat.mul_assoc, Nat.mul_assoc, Nat.mul_comm a b]
    rw [e2, pos_per e3, ← e2]
  rw [e1]
  unfold pos
  have e4 : ((p % g : Nat) : Int) + w * s = p + n * (-(y * (p / g : Nat))) := by
    have e5 : (s : Int) * x = g - n * y := by omega
    have e6 : (p : Int) = g * (p / g : Nat) + (p % g : Nat) := by
      rw [← Int.natCast_mul, ← Int.natCast_add, Nat.div_add_mod]
    have e7 : w * s = (s * x) * (p / g : Nat) := by
      show x * (p / g : Nat) * s = _
      rw [Int.mul_comm (s : Int) x, Int.mul_assoc, Int.mul_assoc, Int.mul_comm (s : Int)]
    rw [e7, e5, Int.sub_mul, Int.mul_neg, ← Int.mul_assoc]
    omega
  rw [e4, Int.add_mul_emod_self_left]
  exact Int.emod_eq_of_lt h0 h1
def gt (T : List (Option Int)) (q : Int) : Option Int := T.getD q.toNat none
theorem gt_at {T : List (Option Int)} {q : Int} (h0 : 0 ≤ q) (h1 : q < T.length) : T[q.toNat]? = some (gt T q) := by
  unfold gt
  rw [List.getD_eq_getElem?_getD, List.getElem?_eq_getElem (by omega)]
  rfl
theorem gt_set {T : List (Option Int)} {p q : Int} {v : Option Int} (hp0 : 0 ≤ p) (hp1 : p < T.length) (h0 : 0 ≤ q) : gt (T.set p.toNat v) q = if q = p then v else gt T q := by
  unfold gt
  rw [List.getD_eq_getElem?_getD, List.getElem?_set]
  by_cases e : q = p
  · subst e
    rw [if_pos rfl, if_pos rfl, if_pos (by omega)]; rfl
  · rw [if_neg (by omega), if_neg e, List.getD_eq_getElem?_getD]
/-- v is a number not above b -/
def Lo (v : Option Int) (b : Int) : Prop := ∃ a, v = some a ∧ a ≤ b
theorem Lo.mono {v : Option Int} {b c : Int} (h : Lo v b) (hb : b ≤ c) : Lo v c := by obtain ⟨a, e, l⟩ := h; exact ⟨a, e, by omega⟩
/-- T' comes from T by steps s at a cost c each -/
structure Ease (n s c : Int) (T T' : List (Option Int)) : Prop where
  len : T'.length = T.length
  snd : ∀ q v, 0 ≤ q → q < n → gt T' q = some v → ∃ (k : Nat) (p u : Int), 0 ≤ p ∧ p < n ∧ gt T p = some u ∧ (p + k * s) % n = q ∧ v = u + k * c
  low : ∀ q u, 0 ≤ q → q < n → gt T q = some u → Lo (gt T' q) u
theorem Ease.refl {n s c : Int} (T : List (Option Int)) : Ease n s c T T :=
  ⟨rfl, fun q v h0 h1 e => ⟨0, q, v, h0, h1, e, by simp; exact Int.emod_eq_of_lt h0 h1, by simp⟩, fun q u h0 h1 e => ⟨u, e, Int.le_refl _⟩⟩
/-- one turn -/
theorem Ease.turn {n s c : Int} {T T' : List (Option Int)} (h : Ease n s c T T') (hn : 0 < n) (hT : T.length = n) {p v : Int} (p0 : 0 ≤ p) (p1 : p < n) (e : gt T' p = some v) (hw : ∀ w, gt T' ((p + s) % n) = some w → v + c < w) : Ease n s c T (T'.set ((p + s) % n).toNat (some (v + c))) := by
  have q0 := Int.emod_nonneg (p + s) (show n ≠ 0 by omega)
  have q1 := Int.emod_lt_of_pos (p + s) hn
  have hl : (p + s) % n < T'.length := by rw [h.len]; omega
  refine ⟨by rw [List.length_set]; exact h.len, fun q w h0 h1 ew => ?_, fun q u h0 h1 eu => ?_⟩
  · rw [gt_set q0 hl h0] at ew
    by_cases eq : q = (p + s) % n
    · rw [if_pos eq] at ew
      cases ew
      obtain ⟨k, p', u, a1, a2, a3, a4, a5⟩ := h.snd p v p0 p1 e
      refine ⟨k + 1, p', u, a1, a2, a3, ?_, ?_⟩
      · rw [eq, ← a4, Int.emod_add_emod, Int.natCast_add, Int.add_mul, Int.natCast_one, Int.one_mul, Int.add_assoc]
      · rw [a5, Int.natCast_add, Int.add_mul, Int.natCast_one, Int.one_mul, Int.add_assoc]
    · rw [if_neg eq] at ew
      exact h.snd q w h0 h1 ew
  · rw [gt_set q0 hl h0]
    by_cases eq : q = (p + s) % n
    · rw [if_pos eq]
      subst eq
      obtain ⟨a, ea, la⟩ := h.low _ u h0 h1 eu
      have := hw a ea
      exact ⟨v + c, rfl, by omega⟩
    · rw [if_neg eq]
      exact h.low q u h0 h1 eu
/-- the way from a start is done up to i turns -/
def Way (n s c st : Int) (T T' : List (Option Int)) (i : Nat) : Prop := ∀ (j k : Nat) u, j + k ≤ i → gt T (pos n s st j) = some u → Lo (gt T' (pos n s st (j + k : Nat))) (u + k * c)
/-- values grow less only -/
def Dn (n : Int) (T T' : List (Option Int)) : Prop := ∀ q u, 0 ≤ q → q < n → gt T q = some u → Lo (gt T' q) u
theorem Way.dn {n s c st : Int} {T T' T2 : List (Option Int)} {i : Nat} (hn : 0 < n) (h : Way n s c st T T' i) (d : Dn n T' T2) : Way n s c st T T2 i := fun j k u hj e => by
  obtain ⟨a, ea, la⟩ := h j k u hj e
  exact (d _ a (pos_lt hn).1 (pos_lt hn).2 ea).mono la
theorem Way.next {n s c st : Int} {T T' T2 : List (Option Int)} {i : Nat} (hn : 0 < n) (h : Way n s c st T T' i) (d : Dn n T' T2) (d0 : Dn n T T2) (hs : ∀ v, gt T' (pos n s st i) = some v → Lo (gt T2 (pos n s st (i + 1 : Nat))) (v + c)) : Way n s c st T T2 (i + 1) := fun j k u hj e => by
  by_cases hk : j + k ≤ i
  · exact h.dn hn d j k u hk e
  · cases k with
    | zero =>
      have := d0 _ u (pos_lt hn).1 (pos_lt hn).2 e
      simpa using this
    | succ k =>
      have hjk : j + k = i := by omega
      obtain ⟨a, ea, la⟩ := h j k u (by omega) e
      rw [hjk] at ea
      have := hs a ea
      rw [show j + (k + 1) = i + 1 by omega]
      refine this.mono ?_
      rw [Int.natCast_add, Int.add_mul, Int.natCast_one, Int.one_mul]
      omega
/-- all is done -/
theorem ways_full {n s : Nat} {c : Int} (hn : 0 < n) (hc : 0 ≤ c) {T T' : List (Option Int)} (h : ∀ st : Nat, st < Nat.gcd s n → Way n s c st T T' (2 * (n / Nat.gcd s n))) {p u : Int} (h0 : 0 ≤ p) (h1 : p < n) (e : gt T p = some u) (k : Nat) : Lo (gt T' ((p + k * s) % n)) (u + k * c) := by
  obtain ⟨st, j, hst, hj, rfl⟩ := pos_all (s := s) hn h0 h1
  obtain ⟨a, ha⟩ := Nat.gcd_dvd_left s n
  obtain ⟨b, hb⟩ := Nat.gcd_dvd_right s n
  have hg : 0 < Nat.gcd s n := Nat.gcd_pos_of_pos_right _ hn
  have hn0 : n / Nat.gcd s n = b := Nat.div_eq_of_eq_mul_right hg hb
  have h := h st hst
  rw [hn0] at hj h
  have hb0 : 0 < b := by omega
  have e3 : (b : Int) * s = n * a := by
    generalize Nat.gcd s n = g at *
    rw [hb, ha, ← Int.natCast_mul, ← Int.natCast_mul]
    congr 1
    rw [Nat.mul_comm b, Nat.mul_assoc, Nat.mul_assoc, Nat.mul_comm a b]
  have hk := Nat.mod_lt k hb0
  have h2 := h j (k % b) u (by omega) e
  rw [pos_add]
  have e5 : ((j : Int) + k) = ((j + k % b : Nat) : Int) + b * ((k / b : Nat) : Int) := by
    have := Nat.mod_add_div k b
    have : ((k % b : Nat) : Int) + b * ((k / b : Nat) : Int) = k := by rw [← Int.natCast_mul, ← Int.natCast_add, this]
    omega
  rw [e5, pos_per e3]
  refine h2.mono ?_
  have : ((k % b : Nat) : Int) * c ≤ k * c := Int.mul_le_mul_of_nonneg_right (by have := Nat.mod_le k b; omega) hc
  omega
/-! combinations of steps with their costs -/
inductive Comb (ps : List (Int × Int)) : Int → Int → Prop
  | nil : Comb ps 0 0
  | cons {s c k t : Int} : (s, c) ∈ ps → Comb ps k t → Comb ps (k + c) (t + s)
theorem Comb.mono {ps qs : List (Int × Int)} (h : ∀ x ∈ ps, x ∈ qs) {k t : Int} (p : Comb ps k t) : Comb qs k t := by
  induction p with
  | nil => exact .nil
  | cons hx _ ih => exact .cons (h _ hx) ih
theorem Comb.times {ps : List (Int × Int)} {s c : Int} (h : (s, c) ∈ ps) {k t : Int} (p : Comb ps k t) : ∀ j : Nat, Comb ps (k + j * c) (t + j * s)
  | 0 => by simpa using p
  | j + 1 => by
    have := Comb.cons h (Comb.times h p j)
    rw [Int.natCast_add, Int.add_mul, Int.add_mul, Int.natCast_one, Int.one_mul, Int.one_mul, ← Int.add_assoc, ← Int.add_assoc]
    exact this
theorem Comb.split {ps qs : List (Int × Int)} {s c : Int} (hd : ∀ x ∈ qs, x ∈ ps ∨ x = (s, c)) {k t : Int} (p : Comb qs k t) : ∃ j : Nat, Comb ps (k - j * c) (t - j * s) := by
  induction p with
  | nil => exact ⟨0, by simpa using Comb.nil⟩
  | @cons s' c' k t hx p ih =>
    obtain ⟨j, q⟩ := ih
    rcases hd _ hx with h | h
    · refine ⟨j, ?_⟩
      have := Comb.cons h q
      rw [show k - (j : Int) * c + c' = k + c' - j * c by omega, show t - (j : Int) * s + s' = t + s' - j * s by omega] at this
      exact this
    · cases h
      refine ⟨j + 1, ?_⟩
      rw [Int.natCast_add, Int.add_mul, Int.add_mul, Int.natCast_one, Int.one_mul, Int.one_mul, show k + c - (j * c + c) = k - j * c by omega, show t + s - (j * s + s) = t - j * s by omega]
      exact q
/-- the least cost of the rest r by n -/
def IsCost (ps : List (Int × Int)) (n r : Int) : Option Int → Prop
  | none => ∀ k t, Comb ps k t → t % n ≠ r
  | some m => (∃ t, Comb ps m t ∧ t % n = r) ∧ ∀ k t, Comb ps k t → t % n = r → m ≤ k
structure CTab (ps : List (Int × Int)) (n : Nat) (T : List (Option Int)) : Prop where
  len : T.length = n
  is : ∀ r : Int, 0 ≤ r → r < n → IsCost ps n r (gt T r)
theorem CTab.ease {ps qs : List (Int × Int)} {n s : Nat} {c : Int} (hn : 0 < n) (hc : 0 ≤ c) (hq : ∀ x, x ∈ qs ↔ x ∈ ps ∨ x = ((s : Int), c)) {T T' : List (Option Int)} (h : CTab ps n T) (E : Ease n s c T T') (hw : ∀ st : Nat, st < Nat.gcd s n → Way n s c st T T' (2 * (n / Nat.gcd s n))) : CTab qs n T' := by
  refine ⟨E.len.trans h.len, fun r r0 r1 => ?_⟩
  have low : ∀ k t, Comb qs k t → t % n = r → Lo (gt T' r) k := fun k t p e => by
    obtain ⟨j, q⟩ := Comb.split (fun x hx => (hq x).mp hx) p
    have z0 := Int.emod_nonneg (t - j * s) (show (n : Int) ≠ 0 by omega)
    have z1 := Int.emod_lt_of_pos (t - j * s) (show (0 : Int) < n by omega)
    have hi := h.is _ z0 z1
    cases eg : gt T ((t - j * s) % n) with
    | none => rw [eg] at hi; exact absurd rfl (hi _ _ q)
    | some u =>
      rw [eg] at hi
      have l1 := hi.2 _ _ q rfl
      have l2 := ways_full hn hc hw z0 z1 eg j
      rw [Int.emod_add_emod, show t - (j : Int) * s + j * s = t by omega, e] at l2
      exact l2.mono (by omega)
  cases eg : gt T' r with
  | none =>
    intro k t p e
    obtain ⟨a, ea, _⟩ := low k t p e
    rw [eg] at ea; cases ea
  | some m =>
    refine ⟨?_, fun k t p e => ?_⟩
    · obtain ⟨j, p, u, p0, p1, e1, e2, rfl⟩ := E.snd r m r0 r1 eg
      have hi := h.is p p0 p1
      rw [e1] at hi
      obtain ⟨t, q, et⟩ := hi.1
      refine ⟨t + j * s, Comb.times ((hq _).mpr (.inr rfl)) (q.mono fun x hx => (hq x).mpr (.inl hx)) j, ?_⟩
      rw [← e2, ← et, Int.emod_add_emod]
    · obtain ⟨a, ea, la⟩ := low k t p e
      rw [eg] at ea; cases ea
      exact la
theorem CTab.zero {ps qs : List (Int × Int)} {n : Nat} {c : Int} (hc : 0 ≤ c) (hq : ∀ x, x ∈ qs ↔ x ∈ ps ∨ x = ((0 : Int), c)) {T : List (Option Int)} (h : CTab ps n T) : CTab qs n T := by
  refine ⟨h.len, fun r r0 r1 => ?_⟩
  have hi := h.is r r0 r1
  have back : ∀ k t, Comb qs k t → ∃ k', Comb ps k' t ∧ k' ≤ k := fun k t p => by
    obtain ⟨j, q⟩ := Comb.split (fun x hx => (hq x).mp hx) p
    rw [Int.mul_zero, Int.sub_zero] at q
    exact ⟨_, q, by have := Int.mul_nonneg (Int.natCast_nonneg j) hc; omega⟩
  cases eg : gt T r with
  | none =>
    rw [eg] at hi
    intro k t p
    obtain ⟨k', q, _⟩ := back k t p
    exact hi _ _ q
  | some m =>
    rw [eg] at hi
    obtain ⟨⟨t, q, e⟩, h2⟩ := hi
    refine ⟨⟨t, q.mono fun x hx => (hq x).mpr (.inl hx), e⟩, fun k t p e => ?_⟩
    obtain ⟨k', q, l⟩ := back k t p
    have := h2 _ _ q e
    omega

end Wk
end S59_

section S60_
set_option Elab.async false
set_option linter.all false
set_option maxRecDepth 100000
namespace Wk
open PySem Mv
theorem Dn.set {n : Int} {T : List (Option Int)} {q v : Int} (q0 : 0 ≤ q) (q1 : q < T.length) (hw : ∀ w, gt T q = some w → v < w) : Dn n T (T.set q.toNat (some v)) := fun p u p0 p1 e => by
  rw [gt_set q0 q1 p0]
  by_cases c : p = q
  · subst c
    rw [if_pos rfl]
    exact ⟨v, rfl, by have := hw u e; omega⟩
  · rw [if_neg c]
    exact ⟨u, e, Int.le_refl _⟩
theorem Dn.refl {n : Int} {T : List (Option Int)} : Dn n T T := fun p u p0 p1 e => ⟨u, e, Int.le_refl _⟩
theorem eased {T : List (Option Int)} {n s : Nat} {c : Int} (hn : 0 < n) (hn2 : n ≤ 1000) (hT : T.length = n) :
    wF (F_eased [.ow (.lst (T.map oi)), .sh (.int s), .sh (.int c)]) fun r out => ∃ T', r = .sh .non ∧ out = [.lst (T'.map oi)] ∧ Ease n s c T T' ∧ ∀ st : Nat, st < Nat.gcd s n → Way n s c st T T' (2 * (n / Nat.gcd s n)) := by
  refine w_eased ?_
  have hg : 0 < Nat.gcd s n := Nat.gcd_pos_of_pos_right _ hn
  have hg2 : Nat.gcd s n ≤ n := Nat.le_of_dvd hn (Nat.gcd_dvd_right s n)
  have cd := common_divisor s n
  have hdiv : n / Nat.gcd s n ≤ n := Nat.div_le_self _ _
  have e2 : (2 : Int) * ((n : Int) / (Nat.gcd s n : Nat)) = ((2 * (n / Nat.gcd s n) : Nat) : Int) := by rw [Int.natCast_mul, Int.natCast_ediv]; rfl
  generalize Nat.gcd s n = g at *
  generalize hm : 2 * (n / g) = m at *
  simp -implicitDefEqProofs [-Mv.eM_ap, -Mv.eSl_ap, -Mv.iSeq_ap, b_eased, hT, cd]
  refine ⟨rg_t (by omega) (by omega), ?_⟩
  rw [rgL0]
  refine w_for0 (fun st Γ => ∃ T' x y z w, Ease n s c T T' ∧ (∀ st' : Nat, st' < st → Way n s c st' T T' m) ∧ Γ = [.ow (.lst (T'.map oi)), .sh (.int s), .sh (.int c), .sh (.int n), .sh (.int g), x, y, z, w]) ⟨T, _, _, _, _, .refl T, fun _ h => absurd h (Nat.not_lt_zero _), rfl⟩ ?_ ?_
  · rintro st st' Γ hst ⟨T', x, y, z, w, hE, hW, rfl⟩
    obtain ⟨h1, h2⟩ := List.getElem?_eq_some_iff.mp hst
    have h3 : st' = st := by rw [← h2]; simp
    subst h3
    have h4 : st' < g := by simpa using h1
    simp -implicitDefEqProofs [-Mv.eM_ap, -Mv.eSl_ap, -Mv.iSeq_ap, e2, show (g : Int) < 1073741824 by omega, hg]
    refine ⟨rg_t (by omega) (by omega), ?_⟩
    rw [rgL0]
    have e0 : ((st' : Nat) : Int) = pos n s st' (0 : Nat) := by
      unfold pos; simp; exact (Int.emod_eq_of_lt (by omega) (by omega)).symm
    refine w_for0 (fun i Γ => ∃ T2 y z, Ease n s c T T2 ∧ (∀ st2 : Nat, st2 < st' → Way n s c st2 T T2 m) ∧ Way n s c st' T T2 i ∧ Γ = [.ow (.lst (T2.map oi)), .sh (.int s), .sh (.int c), .sh (.int n), .sh (.int g), .sh (.int st'), .sh (.int (pos n s st' i)), y, z]) ⟨T', _, _, hE, hW, ?_, by rw [← e0]⟩ ?_ ?_
    · intro j k u hj e
      have hj0 : j = 0 := by omega
      have hk0 : k = 0 := by omega
      subst hj0 hk0
      have := hE.low _ u (pos_lt (by omega)).1 (pos_lt (by omega)).2 e
      simpa using this
    · rintro i i' Γ hi ⟨T2, y, z, hE, hW, hw, rfl⟩
      have hn' : (0 : Int) < n := by omega
      obtain ⟨p0, p1⟩ := pos_lt (n := n) (s := s) (st := st') (i := i) hn'
      obtain ⟨q0, q1⟩ := pos_lt (n := n) (s := s) (st := st') (i := (i + 1 : Nat)) hn'
      have hl2 : T2.length = n := hE.len.trans hT
      have a1 : L2.atI (T2.map oi) (pos n s st' i) = some (oi (gt T2 (pos n s st' i))) := at_map p0 (gt_at p0 (by omega))
      have a2 : L2.atI (T2.map oi) (pos n s st' (i + 1 : Nat)) = some (oi (gt T2 (pos n s st' (i + 1 : Nat)))) := at_map q0 (gt_at q0 (by omega))
      have st1 : (pos n s st' i + s) % (n : Int) = pos n s st' (i + 1 : Nat) := pos_step _ _ _ _
      have ix := ix_nat (n := n) q0 q1
      -- the three ends of a turn
      have keep : (∀ v, gt T2 (pos n s st' i) = some v → Lo (gt T2 (pos n s st' (i + 1 : Nat))) (v + c)) → Way n s c st' T T2 (i + 1) := fun h => hw.next hn' Dn.refl hE.low h
      have put : ∀ v, gt T2 (pos n s st' i) = some v → (∀ w, gt T2 (pos n s st' (i + 1 : Nat)) = some w → v + c < w) → Ease n s c T (T2.set (pos n s st' (i + 1 : Nat)).toNat (some (v + c))) ∧ (∀ st2 : Nat, st2 < st' → Way n s c st2 T (T2.set (pos n s st' (i + 1 : Nat)).toNat (some (v + c))) m) ∧ Way n s c st' T (T2.set (pos n s st' (i + 1 : Nat)).toNat (some (v + c))) (i + 1) := fun v e h => by
        have d : Dn n T2 (T2.set (pos n s st' (i + 1 : Nat)).toNat (some (v + c))) := Dn.set q0 (by omega) h
        have hE3 := hE.turn hn' (by omega) p0 p1 e (by rw [st1]; exact h)
        rw [st1] at hE3
        refine ⟨hE3, fun st2 h2 => (hW st2 h2).dn hn' d, hw.next hn' d hE3.low fun v' e' => ?_⟩
        rw [e] at e'
        cases e'
        rw [gt_set q0 (by omega) q0, if_pos rfl]
        exact ⟨_, rfl, Int.le_refl _⟩
      generalize pos n s st' (i + 1 : Nat) = R at *
      generalize pos n s st' i = P at *
      cases hv : gt T2 P with
      | none =>
        rw [hv] at a1
        simp -implicitDefEqProofs [-Mv.eM_ap, -Mv.eSl_ap, -Mv.iSeq_ap, a1, hn, st1]
        exact ⟨T2, hE, hW, keep (fun v e => by rw [hv] at e; cases e), rfl⟩
      | some v =>
        rw [hv] at a1
        cases hq : gt T2 R with
        | none =>
          rw [hq] at a2
          obtain ⟨b1, b2, b3⟩ := put v hv (fun w e => by rw [hq] at e; cases e)
          simp -implicitDefEqProofs [-Mv.eM_ap, -Mv.eSl_ap, -Mv.iSeq_ap, a1, a2, hn, st1, hl2, ix]
          exact ⟨_, b1, b2, b3, by rw [List.map_set]; rfl⟩
        | some w =>
          rw [hq] at a2
          simp -implicitDefEqProofs [-Mv.eM_ap, -Mv.eSl_ap, -Mv.iSeq_ap, a1, a2, hn, st1, hl2, ix]
          refine ⟨fun h => ?_, fun h => ?_⟩
          · obtain ⟨b1, b2, b3⟩ := put v hv (fun w' e => by rw [hq] at e; cases e; omega)
            exact ⟨_, b1, b2, b3, by rw [List.map_set]; rfl⟩
          · exact ⟨T2, hE, hW, keep (fun v' e => by rw [hv] at e; cases e; exact ⟨w, hq, by omega⟩), rfl⟩
    · rintro Γ ⟨T2, y, z, hE, hW, hw, rfl⟩
      simp -implicitDefEqProofs [-Mv.eM_ap, -Mv.eSl_ap, -Mv.iSeq_ap]
      refine ⟨T2, hE, fun st2 h2 => ?_, rfl⟩
      by_cases e : st2 = st'
      · subst e
        rw [List.length_range] at hw
        exact hw
      · exact hW st2 (by omega)
  · rintro Γ ⟨T', x, y, z, w, hE, hW, rfl⟩
    simp -implicitDefEqProofs [-Mv.eM_ap, -Mv.eSl_ap, -Mv.iSeq_ap]
    rw [List.length_range] at hW
    exact ⟨T', rfl, hE, hW⟩

end Wk
end S60_

section S61_
set_option Elab.async false
set_option linter.all false
set_option maxRecDepth 100000
namespace Wk
open PySem Mv
/-! ### among m coins some come to a multiple of m -/
theorem pigeon : ∀ (n : Nat) (f : Nat → Nat), (∀ i, i ≤ n → f i < n) → ∃ i j, i < j ∧ j ≤ n ∧ f i = f j
  | 0, f, h => absurd (h 0 (Nat.le_refl 0)) (Nat.not_lt_zero _)
  | n + 1, f, h => by
    by_cases c : ∃ i, i ≤ n ∧ f i = f (n + 1)
    · obtain ⟨i, hi, e⟩ := c
      exact ⟨i, n + 1, by omega, Nat.le_refl _, e⟩
    · have hne : ∀ i, i ≤ n → f i ≠ f (n + 1) := fun i hi e => c ⟨i, hi, e⟩
      obtain ⟨i, j, hij, hj, e⟩ := pigeon n (fun i => if f i = n then f (n + 1) else f i) (fun i hi => by
        have h1 := h i (by omega)
        have h2 := h (n + 1) (Nat.le_refl _)
        have h3 := hne i hi
        show (if f i = n then f (n + 1) else f i) < n
        split <;> omega)
      refine ⟨i, j, hij, by omega, ?_⟩
      have hi := hne i (by omega)
      have hj' := hne j hj
      have e : (if f i = n then f (n + 1) else f i) = (if f j = n then f (n + 1) else f j) := e
      split at e <;> split at e <;> omega
theorem Pay.list {cs : List Int} {n t : Int} (p : Pay cs n t) : ∃ xs : List Int, (xs.length : Int) = n ∧ xs.sum = t ∧ ∀ x ∈ xs, x ∈ cs := by
  induction p with
  | nil => exact ⟨[], rfl, rfl, fun x h => by cases h⟩
  | @cons c n t hc p ih =>
    obtain ⟨xs, h1, h2, h3⟩ := ih
    refine ⟨c :: xs, by simp [h1], by simp [h2, Int.add_comm], fun x hx => ?_⟩
    rcases List.mem_cons.mp hx with rfl | hx
    · exact hc
    · exact h3 x hx
theorem Pay.of_list {cs : List Int} : ∀ {xs : List Int}, (∀ x ∈ xs, x ∈ cs) → Pay cs xs.length xs.sum
  | [], _ => .nil
  | x :: xs, h => by
    have := Pay.cons (h x List.mem_cons_self) (Pay.of_list fun y hy => h y (List.mem_cons_of_mem _ hy))
    rw [List.length_cons, List.sum_cons, Int.add_comm x]
    exact this
theorem Pay.add {cs : List Int} {n t n' t' : Int} (p : Pay cs n t) (q : Pay cs n' t') : Pay cs (n + n') (t + t') := by
  induction p with
  | nil => simpa using q
  | @cons c n t hc p ih =>
    have := Pay.cons hc ih
    rw [show n + n' + 1 = n + 1 + n' by omega, show t + t' + c = t + c + t' by omega] at this
    exact this
/-- a part that comes to a multiple of m -/
theorem Pay.part {cs : List Int} {m : Nat} (hm : 0 < m) {n t : Int} (hn : (m : Int) ≤ n) (p : Pay cs n t) : ∃ k s, 1 ≤ k ∧ Pay cs k s ∧ s % m = 0 ∧ Pay cs (n - k) (t - s) := by
  obtain ⟨xs, h1, h2, h3⟩ := p.list
  obtain ⟨i, j, hij, hj, e⟩ := pigeon m (fun i => ((xs.take i).sum % m).toNat) (fun i _ => by
    have := Int.emod_nonneg (xs.take i).sum (show (m : Int) ≠ 0 by omega)
    have := Int.emod_lt_of_pos (xs.take i).sum (show (0 : Int) < m by omega)
    show ((xs.take i).sum % m).toNat < m
    omega)
  have e : ((xs.take i).sum % m).toNat = ((xs.take j).sum % m).toNat := e
  have a1 := Int.emod_nonneg (xs.take i).sum (show (m : Int) ≠ 0 by omega)
  have a2 := Int.emod_nonneg (xs.take j).sum (show (m : Int) ≠ 0 by omega)
  have e2 : (xs.take i).sum % (m : Int) = (xs.take j).sum % m := by omega
  have hx : xs.take j = xs.take i ++ (xs.take j).drop i := by
    have := List.take_append_drop i (xs.take j)
    rwa [List.take_take, Nat.min_eq_left (by omega), eq_comm] at this
  have hs : (xs.take j).sum = (xs.take i).sum + ((xs.take j).drop i).sum := by
    rw [← List.sum_append, ← hx]
  have hall : xs = xs.take i ++ ((xs.take j).drop i) ++ xs.drop j := by rw [← hx, List.take_append_drop]
  have hl : ((xs.take j).drop i).length = j - i := by rw [List.length_drop, List.length_take]; omega
  have hsum : xs.sum = (xs.take i).sum + ((xs.take j).drop i).sum + (xs.drop j).sum := by
    conv => lhs; rw [hall]
    rw [List.sum_append, List.sum_append]
  have hlen : xs.length = (xs.take i).length + ((xs.take j).drop i).length + (xs.drop j).length := by
    conv => lhs; rw [hall]
    rw [List.length_append, List.length_append]
  refine ⟨((xs.take j).drop i).length, ((xs.take j).drop i).sum, by omega, Pay.of_list fun x hx => h3 x (List.mem_of_mem_take (List.mem_of_mem_drop hx)), ?_, ?_⟩
  · have : ((xs.take j).drop i).sum = (xs.take j).sum - (xs.take i).sum := by omega
    rw [this, Int.sub_emod, e2, Int.sub_self, Int.zero_emod]
  · have q1 : Pay cs (xs.take i).length (xs.take i).sum := Pay.of_list fun x hx => h3 x (List.mem_of_mem_take hx)
    have q2 : Pay cs (xs.drop j).length (xs.drop j).sum := Pay.of_list fun x hx => h3 x (List.mem_of_mem_drop hx)
    have := q1.add q2
    rw [show n - ((xs.take j).drop i).length = (xs.take i).length + (xs.drop j).length by omega, show t - ((xs.take j).drop i).sum = (xs.take i).sum + (xs.drop j).sum by omega]
    exact this
/-- coins m left aside: how many they are -/
theorem Pay.aside {cs ds : List Int} {m : Int} (hd : ∀ c ∈ cs, c ∈ ds ∨ c = m) {n t : Int} (p : Pay cs n t) : ∃ q : Nat, Pay ds (n - q) (t - q * m) := by
  induction p with
  | nil => exact ⟨0, by simpa using Pay.nil⟩
  | @cons c n t hc p ih =>
    obtain ⟨q, h⟩ := ih
    rcases hd c hc with e | e
    · refine ⟨q, ?_⟩
      have := Pay.cons e h
      rw [show n - (q : Int) + 1 = n + 1 - q by omega, show t - (q : Int) * m + c = t + c - q * m by omega] at this
      exact this
    · subst e
      refine ⟨q + 1, ?_⟩
      rw [Int.natCast_add, Int.add_mul, Int.natCast_one, Int.one_mul, show n + 1 - ((q : Int) + 1) = n - q by omega, show t + c - ((q : Int) * c + c) = t - q * c by omega]
      exact h
theorem Pay.wmul {cs : List Int} {a b : Int} (h : ∀ c ∈ cs, 0 ≤ a + b * c) {n t : Int} (p : Pay cs n t) : 0 ≤ a * n + b * t := by
  induction p with
  | nil => simp
  | @cons c n t hc p ih => have := h c hc; rw [Int.mul_add, Int.mul_add]; omega
/-- fewer than m coins, none of them m, with the same rest by m and no greater weight -/
theorem Pay.small {cs ds : List Int} {m : Nat} (hm : 0 < m) (hd : ∀ c ∈ cs, c ∈ ds ∨ c = m) {a b : Int} (h0 : a + b * m = 0) (hw : ∀ c ∈ ds, 0 ≤ a + b * c) {n t : Int} (p : Pay cs n t) : ∃ n' t', Pay ds n' t' ∧ n' < m ∧ t' % m = t % m ∧ a * n' + b * t' ≤ a * n + b * t := by
  obtain ⟨q, p1⟩ := p.aside hd
  have red : ∀ (k : Nat) (n t : Int), n.toNat = k → Pay ds n t → ∃ n' t', Pay ds n' t' ∧ n' < m ∧ t' % m = t % m ∧ a * n' + b * t' ≤ a * n + b * t := by
    intro k
    induction k using Nat.strongRecOn with
    | _ k ih =>
      intro n t hk p
      by_cases c : n < m
      · exact ⟨n, t, p, c, rfl, Int.le_refl _⟩
      · obtain ⟨j, s, hj, pj, hs, pr⟩ := p.part hm (by omega)
        obtain ⟨n', t', p', hn', ht', hl⟩ := ih (n - j).toNat (by omega) _ _ rfl pr
        refine ⟨n', t', p', hn', ?_, ?_⟩
        · rw [ht', Int.sub_emod, hs, Int.sub_zero, Int.emod_emod]
        · have := pj.wmul hw
          rw [Int.mul_sub, Int.mul_sub] at hl
          omega
  obtain ⟨n', t', p', hn', ht', hl⟩ := red _ _ _ rfl p1
  refine ⟨n', t', p', hn', ?_, ?_⟩
  · rw [ht', Int.sub_emod, Int.mul_emod_left, Int.sub_zero, Int.emod_emod]
  · rw [Int.mul_sub, Int.mul_sub] at hl
    have : a * (q : Int) + b * ((q : Int) * m) = 0 := by
      rw [Int.mul_left_comm b, Int.mul_comm a, ← Int.mul_add, h0, Int.mul_zero]
    omega
/-- the least weight of all payments of sums with the rest r by m -/
def IsW (cs : List Int) (a b m r : Int) : Option Int → Prop
  | none => ∀ n t, Pay cs n t → t % m ≠ r
  | some w => (∃ n t, Pay cs n t ∧ t % m = r ∧ a * n + b * t = w) ∧ ∀ n t, Pay cs n t → t % m = r → w ≤ a * n + b * t
theorem IsW.one {cs : List Int} {a b m r : Int} {v w : Option Int} (h : IsW cs a b m r v) (h' : IsW cs a b m r w) : v = w := by
  cases v with
  | none =>
    cases w with
    | none => rfl
    | some w => obtain ⟨⟨n, t, p, e, _⟩, _⟩ := h'; exact absurd e (h n t p)
  | some v =>
    cases w with
    | none => obtain ⟨⟨n, t, p, e, _⟩, _⟩ := h; exact absurd e (h' n t p)
    | some w =>
      obtain ⟨⟨n, t, p, e, rfl⟩, h2⟩ := h
      obtain ⟨⟨n', t', p', e', rfl⟩, h2'⟩ := h'
      have := h2 _ _ p' e'
      have := h2' _ _ p e
      rw [show a * n + b * t = a * n' + b * t' by omega]
/-- combinations of steps as payments -/
theorem isW_of {cs : List Int} {ps : List (Int × Int)} {a b m : Int} (f : ∀ s c, (s, c) ∈ ps → ∃ x ∈ cs, x % m = s % m ∧ c = a + b * x) (g : ∀ x ∈ cs, (∃ s, (s, a + b * x) ∈ ps ∧ s % m = x % m) ∨ (x % m = 0 ∧ a + b * x = 0)) {r : Int} {v : Option Int} (h : IsCost ps m r v) : IsW cs a b m r v := by
  have to : ∀ k t, Comb ps k t → ∃ n t', Pay cs n t' ∧ t' % m = t % m ∧ k = a * n + b * t' := fun k t p => by
    induction p with
    | nil => exact ⟨0, 0, .nil, rfl, by simp⟩
    | @cons s c k t hx p ih =>
      obtain ⟨n, t', q, e, rfl⟩ := ih
      obtain ⟨x, hx', ex, rfl⟩ := f s c hx
      refine ⟨n + 1, t' + x, .cons hx' q, ?_, ?_⟩
      · rw [Int.add_emod, e, ex, ← Int.add_emod]
      · rw [Int.mul_add, Int.mul_add]; omega
  have fro : ∀ n t, Pay cs n t → ∃ t', Comb ps (a * n + b * t) t' ∧ t' % m = t % m := fun n t p => by
    induction p with
    | nil => exact ⟨0, by simpa using Comb.nil, rfl⟩
    | @cons x n t hx p ih =>
      obtain ⟨t', q, e⟩ := ih
      rcases g x hx with ⟨s, hs, es⟩ | ⟨e0, e1⟩
      · refine ⟨t' + s, ?_, ?_⟩
        · have := Comb.cons hs q
          rw [Int.mul_add, Int.mul_add, Int.mul_one, show a * n + a + (b * t + b * x) = a * n + b * t + (a + b * x) by omega]
          exact this
        · rw [Int.add_emod, e, es, ← Int.add_emod]
      · refine ⟨t', ?_, ?_⟩
        · rw [Int.mul_add, Int.mul_add, Int.mul_one, show a * n + a + (b * t + b * x) = a * n + b * t by omega]
          exact q
        · rw [Int.add_emod, e0, Int.add_zero, Int.emod_emod, e]
  cases v with
  | none =>
    intro n t p e
    obtain ⟨t', q, e'⟩ := fro n t p
    exact h _ _ q (by omega)
  | some w =>
    obtain ⟨⟨t, q, e⟩, h2⟩ := h
    obtain ⟨n, t', p, e', rfl⟩ := to _ _ q
    refine ⟨⟨n, t', p, by omega, rfl⟩, fun n t p e => ?_⟩
    obtain ⟨t', q, e'⟩ := fro n t p
    exact h2 _ _ q (by omega)

end Wk
end S61_

section S62_
set_option Elab.async false
set_option linter.all false
set_option maxRecDepth 100000
namespace Wk
open PySem Mv
/-! ### the program's losses and gains -/
theorem cut_init {α : Type} (xs : List α) : cutP xs none (some (-1)) = xs.dropLast := by
  unfold cutP
  have e1 : HT.sIx xs.length 0 none = 0 := rfl
  have e2 : HT.sIx xs.length xs.length (some (-1)) = xs.length - 1 := by simp [HT.sIx]; omega
  rw [e1, e2, List.drop_zero, Nat.sub_zero, List.dropLast_eq_take]
theorem cut_tail {α : Type} (xs : List α) : cutP xs (some 1) none = xs.tail := by
  unfold cutP
  cases xs with
  | nil => rfl
  | cons x xs =>
    have e1 : HT.sIx (x :: xs).length 0 (some 1) = 1 := by simp [HT.sIx]
    have e2 : HT.sIx (x :: xs).length (x :: xs).length none = (x :: xs).length := by simp [HT.sIx]
    rw [e1, e2]
    simp
def prV (p : Int × Int) : PV := .tup [.int p.1, .int p.2]
theorem ctab0 {n : Nat} (hn : 0 < n) : CTab [] n (some 0 :: List.replicate (n - 1) none) := by
  refine ⟨by rw [List.length_cons, List.length_replicate]; omega, fun r r0 r1 => ?_⟩
  have e : ∀ k t, Comb [] k t → k = 0 ∧ t = 0 := fun k t p => by
    cases p with
    | nil => exact ⟨rfl, rfl⟩
    | cons h _ => cases h
  have hg : gt (some 0 :: List.replicate (n - 1) none) r = if r = 0 then some 0 else none := by
    unfold gt
    by_cases c : r = 0
    · subst c; rfl
    · rw [if_neg c]
      obtain ⟨k, hk⟩ : ∃ k, r.toNat = k + 1 := ⟨r.toNat - 1, by omega⟩
      rw [hk, List.getD_eq_getElem?_getD, List.getElem?_cons_succ, List.getElem?_replicate]
      split <;> rfl
  rw [hg]
  by_cases c : r = 0
  · rw [if_pos c]
    exact ⟨⟨0, .nil, by rw [c]; simp⟩, fun k t p _ => by have := e k t p; omega⟩
  · rw [if_neg c]
    intro k t p h
    obtain ⟨_, rfl⟩ := e k t p
    simp at h
    exact c h.symm
theorem least_costs {n : Nat} {ps : List (Int × Int)} (hn : 0 < n) (hn2 : n ≤ 1000) (hp : ∀ p ∈ ps, 0 ≤ p.1 ∧ 0 ≤ p.2) : wF (F_least_costs [.sh (.int n), .sh (.lst (ps.map prV))]) fun r out => ∃ T, r = .ow (.lst (T.map oi)) ∧ out = [] ∧ CTab ps n T := by
  refine w_least_costs ?_
  have e1 : 1 + (n - 1) ≤ sizeLine := le_sz (by omega)
  have e2 : repL (.lst [.non]) (.int ((n : Int) - 1)) = some (.tmp (.lst (List.replicate (n - 1) .non))) := by
    have := rep_one .non (m := n - 1) (by omega)
    rwa [show (((n - 1 : Nat)) : Int) = (n : Int) - 1 by omega] at this
  obtain ⟨T0, hT0, e0⟩ : ∃ T0, CTab [] n T0 ∧ PV.int 0 :: List.replicate (n - 1) PV.non = T0.map oi := ⟨_, ctab0 hn, by simp⟩
  simp -implicitDefEqProofs [-Mv.eM_ap, -Mv.eSl_ap, -Mv.iSeq_ap, b_least_costs, e2, e1, e0]
  refine w_for0 (fun i Γ => ∃ T x y, CTab (ps.take i) n T ∧ Γ = [.sh (.int n), .sh (.lst (ps.map prV)), .ow (.lst (T.map oi)), x, y]) ⟨T0, _, _, hT0, rfl⟩ ?_ ?_
  · rintro i p Γ hi ⟨T, x, y, hT, rfl⟩
    obtain ⟨h1, h2⟩ := hp p (List.mem_of_getElem? hi)
    have hq : ∀ x, x ∈ ps.take (i + 1) ↔ x ∈ ps.take i ∨ x = p := fun x => by rw [List.take_add_one, hi]; simp
    obtain ⟨s, c⟩ := p
    simp -implicitDefEqProofs [-Mv.eM_ap, -Mv.eSl_ap, -Mv.iSeq_ap, prV]
    refine ⟨fun h0 => ?_, fun h0 => ?_⟩
    · obtain ⟨s, rfl⟩ : ∃ k : Nat, s = k := ⟨s.toNat, by omega⟩
      refine wF_mono (eased (T := T) (n := n) hn hn2 hT.len) ?_
      rintro r out ⟨T', rfl, rfl, hE, hW⟩
      simp -implicitDefEqProofs [-Mv.eM_ap, -Mv.eSl_ap, -Mv.iSeq_ap]
      exact ⟨T', hT.ease hn h2 hq hE hW, rfl⟩
    · have : s = 0 := by simp at h1; omega
      subst this
      exact ⟨T, hT.zero h2 hq, rfl⟩
  · rintro Γ ⟨T, x, y, hT, rfl⟩
    rw [List.take_length] at hT
    simp -implicitDefEqProofs [-Mv.eM_ap, -Mv.eSl_ap, -Mv.iSeq_ap]
    exact ⟨T, rfl, hT⟩

end Wk
end S62_

section S63_
set_option Elab.async false
set_option linter.all false
set_option maxRecDepth 100000
namespace Wk
open PySem Mv
/-- the least and the greatest coin -/
structure Edg (cs : List Int) (l G : Nat) : Prop where
  l1 : 1 ≤ l
  lG : l ≤ G
  lo : ∀ c ∈ cs, (l : Int) ≤ c
  hi : ∀ c ∈ cs, c ≤ (G : Int)
  ml : (l : Int) ∈ cs
  mh : (G : Int) ∈ cs
  at0 : L2.atI (cs.map PV.int) 0 = some (.int l)
  atL : L2.atI (cs.map PV.int) (-1) = some (.int G)
  first : ∀ c ∈ cs, c ∈ cs.tail ∨ c = l
  last : ∀ c ∈ cs, c ∈ cs.dropLast ∨ c = G
theorem edg_of {cs : List Int} {top : Nat} (h : Asc cs 1 top) (h0 : cs ≠ []) : ∃ l G : Nat, Edg cs l G ∧ G ≤ top := by
  have hl : 0 < cs.length := List.length_pos_iff.mpr h0
  have hp := List.pairwise_iff_getElem.mp h.pw
  have m0 : cs[0] ∈ cs := List.getElem_mem hl
  have m1 : cs[cs.length - 1] ∈ cs := List.getElem_mem (by omega)
  have r0 := h.rg _ m0
  have r1 := h.rg _ m1
  obtain ⟨l, hlE⟩ : ∃ l : Nat, cs[0] = l := ⟨cs[0].toNat, by omega⟩
  obtain ⟨G, hGE⟩ : ∃ G : Nat, cs[cs.length - 1] = G := ⟨cs[cs.length - 1].toNat, by omega⟩
  have hlo : ∀ c ∈ cs, (l : Int) ≤ c := fun c hc => by
    obtain ⟨i, hi, rfl⟩ := List.getElem_of_mem hc
    by_cases e : i = 0
    · subst e; omega
    · have := hp 0 i hl hi (by omega); omega
  have hhi : ∀ c ∈ cs, c ≤ (G : Int) := fun c hc => by
    obtain ⟨i, hi, rfl⟩ := List.getElem_of_mem hc
    by_cases e : i = cs.length - 1
    · subst e; omega
    · have := hp i (cs.length - 1) hi (by omega) (by omega); omega
  have := hlo _ m1
  refine ⟨l, G, ⟨by omega, by omega, hlo, hhi, hlE ▸ m0, hGE ▸ m1, ?_, ?_, fun c hc => ?_, fun c hc => ?_⟩, by omega⟩
  · rw [← hlE]; exact at_map (em := PV.int) (by decide) (List.getElem?_eq_getElem hl)
  · rw [← hGE]
    have := at_last (xs := cs.map PV.int) (by simpa using h0)
    rw [this, List.getLast_eq_getElem]
    simp
  · cases cs with
    | nil => exact absurd rfl h0
    | cons x xs =>
      rcases List.mem_cons.mp hc with rfl | hc
      · exact .inr hlE
      · exact .inl hc
  · have e := List.dropLast_concat_getLast h0
    rw [← e] at hc
    rcases List.mem_append.mp hc with hc | hc
    · exact .inl hc
    · refine .inr ?_
      rw [List.mem_singleton.mp hc, List.getLast_eq_getElem, hGE]
/-- the coin ahead of the greatest one -/
theorem second_of {cs : List Int} {top : Nat} (h : Asc cs 1 top) (hl : 1 < cs.length) : ∃ C : Nat, C ≤ top ∧ 1 ≤ C ∧ L2.atI (cs.map PV.int) (-2) = some (.int C) ∧ ∀ c ∈ cs.dropLast, c ≤ (C : Int) := by
  have hp := List.pairwise_iff_getElem.mp h.pw
  have m0 : cs[cs.length - 2] ∈ cs := List.getElem_mem (by omega)
  have r0 := h.rg _ m0
  obtain ⟨C, hC⟩ : ∃ C : Nat, cs[cs.length - 2] = C := ⟨cs[cs.length - 2].toNat, by omega⟩
  refine ⟨C, by omega, by omega, ?_, fun c hc => ?_⟩
  · have := at_neg (xs := cs.map PV.int) (k := 2) (by decide) (by simp; omega)
    rw [show (-2 : Int) = -((2 : Nat) : Int) from rfl, this, List.getElem?_map, List.length_map, List.getElem?_eq_getElem (by omega), hC]
    rfl
  · obtain ⟨i, hi, rfl⟩ := List.getElem_of_mem hc
    rw [List.length_dropLast] at hi
    rw [List.getElem_dropLast]
    by_cases e : i = cs.length - 2
    · subst e; omega
    · have := hp i (cs.length - 2) (by omega) (by omega) (by omega); omega

end Wk
end S63_

section S64_
set_option Elab.async false
set_option linter.all false
set_option maxRecDepth 100000
namespace Wk
open PySem Mv
/-- what the bounds lean on -/
structure Snd (cs : List Int) (C : Nat) : Prop where
  le : C ≤ 60
  at2 : 1 < cs.length → L2.atI (cs.map PV.int) (-2) = some (.int C)
  hi : ∀ c ∈ cs.dropLast, c ≤ (C : Int)
theorem snd_of {cs : List Int} (h : Asc cs 1 60) : ∃ C, Snd cs C := by
  by_cases c : 1 < cs.length
  · obtain ⟨C, h1, _, h2, h3⟩ := second_of (top := 60) h c
    exact ⟨C, h1, fun _ => h2, h3⟩
  · refine ⟨0, by decide, fun h' => absurd h' c, fun x hx => ?_⟩
    have : cs.dropLast.length = 0 := by rw [List.length_dropLast]; omega
    rw [List.length_eq_zero_iff.mp this] at hx
    cases hx
def E0 (cs : List Int) (G C : Nat) : Nat := if 1 < cs.length then (G - 1) * C else 0
def E1 (cs : List Int) (l G : Nat) : Nat := if 1 < cs.length then (l - 1) * G else 0
theorem E0_le {cs : List Int} {G C : Nat} (hG : G ≤ 60) (hC : C ≤ 60) : E0 cs G C ≤ 3600 := by
  unfold E0
  split
  · exact Nat.le_trans (Nat.mul_le_mul (show G - 1 ≤ 60 by omega) hC) (by decide)
  · omega
theorem E1_le {cs : List Int} {l G : Nat} (hl : l ≤ 60) (hG : G ≤ 60) : E1 cs l G ≤ 3600 := by
  unfold E1
  split
  · exact Nat.le_trans (Nat.mul_le_mul (show l - 1 ≤ 60 by omega) hG) (by decide)
  · omega

end Wk
end S64_

section S65_
set_option Elab.async false
set_option linter.all false
set_option maxRecDepth 100000
namespace Wk
open PySem Mv
theorem rep_oi {k : Nat} (hk : 0 < k) (hk2 : k ≤ 500) {v : Option Int} (h : ∀ i, v = some i → i.natAbs < 10 ^ k) : Rep (oi v) (k + 5) 0 := by
  cases v with
  | none => exact Rep.non.mono (by omega) (Nat.le_refl 0)
  | some i => exact (Rep.int hk hk2 (h i rfl)).mono (by omega) (Nat.le_refl 0)
theorem rep_tab {k : Nat} (hk : 0 < k) (hk2 : k ≤ 500) {D : List (Option Int)} (h : ∀ v ∈ D, ∀ i, v = some i → i.natAbs < 10 ^ k) : Rep (.tup (D.map oi)) (3 + D.length * (k + 7)) 1 := by
  have := Rep.tup (ps := D.map oi) (n := k + 5) (d := 0) fun p hp => by
    obtain ⟨v, hv, rfl⟩ := List.mem_map.mp hp
    exact rep_oi hk hk2 (h v hv)
  rwa [List.length_map] at this
theorem rep_2 {p : PV} {n d : Nat} (h : Rep p n d) (hn : n ≤ 7000000) (hd : d ≤ 60) : ∃ x, reprP (.lst [p, p]) = some x ∧ PyData.strOk x = true := by
  refine (Rep.lst (ps := [p, p]) fun q hq => ?_).repr (n := 2 + [p, p].length * (n + 2)) (d := d + 1) (by simp; omega) (by omega)
  have : q = p := by simpa using hq
  rw [this]; exact h

end Wk
end S65_

section S66_
set_option Elab.async false
set_option linter.all false
set_option maxRecDepth 100000
namespace Wk
open PySem Mv
/-! ### _law_moves: prices by rounds, a coin there or back at a time (needs Pig, Rests' nodup_len) -/
theorem dget_none' {d : List (Int × PV)} {k : Int} : dget d k = none ↔ k ∉ d.map (·.1) := by
  unfold dget
  rw [Option.map_eq_none_iff, List.find?_eq_none]
  constructor
  · intro h hk
    obtain ⟨x, hx, e⟩ := List.mem_map.mp hk
    exact h x hx (by simp [e])
  · intro h x hx hb
    exact h (List.mem_map.mpr ⟨x, hx, by simpa using hb⟩)
theorem nodup_len' : ∀ (G : Nat) (l : List Int), l.Nodup → (∀ k ∈ l, 0 ≤ k ∧ k < G) → l.length ≤ G
  | 0, l, _, h => by
    cases l with
    | nil => simp
    | cons k l => have := h k List.mem_cons_self; omega
  | G + 1, l, hn, h => by
    by_cases c : (G : Int) ∈ l
    · have h1 := nodup_len' G (l.erase (G : Int)) (hn.erase _) fun k hk => by
        have h2 := h k (List.mem_of_mem_erase hk)
        have : k ≠ (G : Int) := fun e => by rw [e] at hk; exact (List.Nodup.not_mem_erase hn) hk
        omega
      rw [List.length_erase_of_mem c] at h1
      omega
    · have := nodup_len' G l hn fun k hk => by
        have h2 := h k hk
        have : k ≠ (G : Int) := fun e => c (e ▸ hk)
        omega
      omega
def sgn (cs : List Int) : List Int := cs ++ cs.map fun c => -c
def nb (cs : List Int) (p : Int) : List Int := cs.map (fun c => p + c) ++ cs.map fun c => p - c
theorem nb_sgn {cs : List Int} {p q : Int} (h : q ∈ nb cs p) : q - p ∈ sgn cs := by
  unfold nb at h
  unfold sgn
  rcases List.mem_append.mp h with h | h
  · obtain ⟨c, hc, rfl⟩ := List.mem_map.mp h
    exact List.mem_append_left _ (by rwa [show p + c - p = c by omega])
  · obtain ⟨c, hc, rfl⟩ := List.mem_map.mp h
    exact List.mem_append_right _ (List.mem_map.mpr ⟨c, hc, by omega⟩)
theorem sgn_nb {cs : List Int} {p c : Int} (h : c ∈ sgn cs) : p + c ∈ nb cs p := by
  unfold sgn at h
  unfold nb
  rcases List.mem_append.mp h with h | h
  · exact List.mem_append_left _ (List.mem_map.mpr ⟨c, h, rfl⟩)
  · obtain ⟨x, hx, rfl⟩ := List.mem_map.mp h
    exact List.mem_append_right _ (List.mem_map.mpr ⟨x, hx, by omega⟩)
/-- behind n rounds -/
structure MInv (cs : List Int) (top n : Nat) (d : List (Int × PV)) : Prop where
  nd : (d.map (·.1)).Nodup
  snd : ∀ p v, dget d p = some v → ∃ k : Int, v = .int k ∧ 0 ≤ k ∧ k ≤ n ∧ Pay (sgn cs) k p ∧ -(top : Int) ≤ p ∧ p ≤ top
  z : dget d 0 = some (.int 0)
  clo : ∀ p (k : Int), dget d p = some (.int k) → k < n → ∀ q ∈ nb cs p, -(top : Int) ≤ q → q ≤ top → ∃ m : Int, dget d q = some (.int m) ∧ m ≤ k + 1
theorem keys_len {d : List (Int × PV)} {top : Nat} (nd : (d.map (·.1)).Nodup) (h : ∀ p v, dget d p = some v → -(top : Int) ≤ p ∧ p ≤ top) : d.length ≤ 2 * top + 1 := by
  have := nodup_len' (2 * top + 1) ((d.map (·.1)).map fun k => k + top) (by
    rw [List.nodup_iff_pairwise_ne, List.pairwise_map]
    rw [List.nodup_iff_pairwise_ne] at nd
    exact nd.imp fun h e => h (by omega)) fun k hk => by
      obtain ⟨x, hx, rfl⟩ := List.mem_map.mp hk
      cases e : dget d x with
      | none => exact absurd hx (dget_none'.mp e)
      | some v => have := h x v e; omega
  simpa using this
/-- in round t, from d on -/
structure MRnd (cs : List Int) (top : Nat) (t : Nat) (d d' : List (Int × PV)) (fr : List Int) : Prop where
  nd : (d'.map (·.1)).Nodup
  old : ∀ p v, dget d p = some v → dget d' p = some v
  new : ∀ p v, dget d' p = some v → dget d p = some v ∨ (v = .int t ∧ p ∈ fr ∧ dget d p = none ∧ Pay (sgn cs) t p ∧ -(top : Int) ≤ p ∧ p ≤ top)
  frs : ∀ p ∈ fr, dget d' p = some (.int t)
  len : d'.length = d.length + fr.length
def Done (cs : List Int) (top t : Nat) (d' : List (Int × PV)) (qs : List Int) : Prop := ∀ q ∈ qs, -(top : Int) ≤ q → q ≤ top → ∃ m : Int, dget d' q = some (.int m) ∧ m ≤ t
theorem MRnd.refl {cs : List Int} {top t n : Nat} {d : List (Int × PV)} (I : MInv cs top n d) : MRnd cs top t d d [] :=
  ⟨I.nd, fun _ _ h => h, fun _ _ h => .inl h, fun p h => (nomatch h), rfl⟩
theorem MRnd.bd {cs : List Int} {top t n : Nat} {d d' : List (Int × PV)} {fr : List Int} (I : MInv cs top n d) (R : MRnd cs top t d d' fr) : d'.length ≤ 2 * top + 1 := keys_len R.nd fun p v h => by
  rcases R.new p v h with h | ⟨_, _, _, _, h⟩
  · obtain ⟨_, _, _, _, _, h⟩ := I.snd p v h; exact h
  · exact h
theorem MRnd.put {cs : List Int} {top t : Nat} {d d' : List (Int × PV)} {fr : List Int} (R : MRnd cs top t d d' fr) {q : Int} (hq : dget d' q = none) (hp : Pay (sgn cs) t q) (b : -(top : Int) ≤ q ∧ q ≤ top) : MRnd cs top t d (dset d' q (.int t)) (fr ++ [q]) := by
  have e : dset d' q (.int t) = d' ++ [(q, .int t)] := by unfold dset; rw [hq]; rfl
  have dn : dget d q = none := by
    cases h : dget d q with
    | none => rfl
    | some v => rw [R.old q v h] at hq; cases hq
  refine ⟨?_, fun p v h => ?_, fun p v h => ?_, fun p h => ?_, by rw [e, List.length_append, List.length_append, R.len]; simp; omega⟩
  · rw [e, List.map_append]
    exact List.nodup_append.mpr ⟨R.nd, by simp, fun a ha b hb e2 => by
      rw [List.map_cons, List.map_nil, List.mem_singleton] at hb
      rw [e2, hb] at ha
      exact dget_none'.mp hq ha⟩
  · rw [dget_set]
    by_cases c : q = p
    · subst c; rw [dn] at h; cases h
    · rw [if_neg c]; exact R.old p v h
  · rw [dget_set] at h
    by_cases c : q = p
    · rw [if_pos c] at h
      cases h
      subst c
      exact .inr ⟨rfl, by simp, dn, hp, b⟩
    · rw [if_neg c] at h
      rcases R.new p v h with h | ⟨h1, h2, h3⟩
      · exact .inl h
      · exact .inr ⟨h1, List.mem_append_left _ h2, h3⟩
  · rw [dget_set]
    by_cases c : q = p
    · rw [if_pos c]
    · rw [if_neg c]
      rcases List.mem_append.mp h with h | h
      · exact R.frs p h
      · exact absurd (List.mem_singleton.mp h).symm c
theorem Done.put {cs : List Int} {top t : Nat} {d' : List (Int × PV)} {qs : List Int} (D : Done cs top t d' qs) {q : Int} (hq : dget d' q = none) : Done cs top t (dset d' q (.int t)) qs := fun p hp b1 b2 => by
  obtain ⟨m, h1, h2⟩ := D p hp b1 b2
  refine ⟨m, ?_, h2⟩
  rw [dget_set, if_neg (fun e => by rw [e, h1] at hq; cases hq)]
  exact h1
/-- the round is done -/
theorem MRnd.fin {cs : List Int} {top n : Nat} {d d' : List (Int × PV)} {ps fr : List Int} (I : MInv cs top n d) (hE : ∀ p, p ∈ ps ↔ dget d p = some (.int n)) (R : MRnd cs top (n + 1) d d' fr) (D : ∀ p ∈ ps, Done cs top (n + 1) d' (nb cs p)) : MInv cs top (n + 1) d' ∧ ∀ p, p ∈ fr ↔ dget d' p = some (.int (n + 1 : Nat)) := by
  refine ⟨⟨R.nd, fun p v h => ?_, R.old _ _ I.z, fun p k h hk q hq b1 b2 => ?_⟩, fun p => ⟨R.frs p, fun h => ?_⟩⟩
  · rcases R.new p v h with h | ⟨rfl, _, _, h1, h2⟩
    · obtain ⟨k, a, b, c, e, f⟩ := I.snd p v h
      exact ⟨k, a, b, by omega, e, f⟩
    · exact ⟨_, rfl, by omega, by omega, h1, h2⟩
  · rcases R.new p _ h with h | ⟨e, _⟩
    · by_cases c : k < n
      · obtain ⟨m, h1, h2⟩ := I.clo p k h c q hq b1 b2
        exact ⟨m, R.old _ _ h1, h2⟩
      · obtain ⟨k', e, k0, kn, _⟩ := I.snd p _ h
        cases e
        have : k = n := by omega
        subst this
        obtain ⟨m, h1, h2⟩ := D p ((hE p).mpr h) q hq b1 b2
        exact ⟨m, h1, by omega⟩
    · cases e; omega
  · rcases R.new p _ h with h | ⟨_, h, _⟩
    · obtain ⟨k', e, k0, kn, _⟩ := I.snd p _ h
      cases e; omega
    · exact h
theorem law_moves {cs : List Int} {top : Nat} (hl : cs.length ≤ 15) (ht : top ≤ 4000) : wF (F_law_moves [.sh (.tup (cs.map .int)), .sh (.int top)]) fun s out => ∃ d, s = .ow (dV d) ∧ out = [] ∧ MInv cs top top d := by
  refine w_law_moves ?_
  have I0 : MInv cs top 0 [(0, .int 0)] := ⟨by simp, fun p v h => by
    unfold dget at h
    by_cases c : (0 : Int) = p
    · subst c
      simp at h
      subst h
      exact ⟨0, rfl, by omega, by omega, .nil, by omega, by omega⟩
    · simp [c] at h, rfl, fun p k h hk => by
      unfold dget at h
      by_cases c : (0 : Int) = p
      · subst c; simp at h; omega
      · simp [c] at h⟩
  have E0 : ∀ p, p ∈ [(0 : Int)] ↔ dget [((0 : Int), PV.int 0)] p = some (.int ((0 : Nat) : Int)) := fun p => by
    unfold dget
    by_cases c : (0 : Int) = p
    · subst c; simp
    · simp [c]; omega
  unfold b_law_moves
  refine w_cut (fun Γ => Γ = [.sh (.tup (cs.map .int)), .sh (.int top), .ow (dV []), .ow (.lst [.int 0]), .un, .un, .un, .un, .un]) ?_ ?_
  · simp -implicitDefEqProofs [-Mv.eM_ap, -Mv.eSl_ap, -Mv.iSeq_ap, mvs]
  rintro _ rfl
  refine w_cut (fun Γ => Γ = [.sh (.tup (cs.map .int)), .sh (.int top), .ow (dV [(0, .int 0)]), .ow (.lst ([(0 : Int)].map .int)), .un, .un, .un, .un, .un]) ?_ ?_
  · have e : dset [] 0 (.int 0) = [((0 : Int), PV.int 0)] := rfl
    simp -implicitDefEqProofs [-Mv.eM_ap, -Mv.eSl_ap, -Mv.iSeq_ap, lt_sz (show 0 < 16000000 by decide), e]
  rintro _ rfl
  refine w_cut (fun Γ => ∃ d x3 x4 x5 x6 x7 x8, MInv cs top top d ∧ Γ = [.sh (.tup (cs.map .int)), .sh (.int top), .ow (dV d), x3, x4, x5, x6, x7, x8]) ?_ ?_
  · simp -implicitDefEqProofs [-Mv.eM_ap, -Mv.eSl_ap, -Mv.iSeq_ap]
    refine ⟨rg_t (by omega) (by omega), ?_⟩
    rw [rgL_nat, show ((top : Int) + 1 - 1).toNat = top by omega]
    refine w_for0 (fun i Γ => ∃ d ps x4 x5 x6 x7 x8, MInv cs top i d ∧ (∀ p, p ∈ ps ↔ dget d p = some (.int i)) ∧ Γ = [.sh (.tup (cs.map .int)), .sh (.int top), .ow (dV d), .ow (.lst (ps.map .int)), x4, x5, x6, x7, x8]) ⟨_, [0], _, _, _, _, _, I0, E0, rfl⟩ ?_ ?_
    · rintro i i' Γ hi ⟨d, ps, x4, x5, x6, x7, x8, I, hE, rfl⟩
      obtain ⟨h1, h2⟩ := List.getElem?_eq_some_iff.mp hi
      have h3 : i' = i := by rw [← h2]; simp
      subst h3
      simp -implicitDefEqProofs [-Mv.eM_ap, -Mv.eSl_ap, -Mv.iSeq_ap]
      refine w_for0 (fun j Γ => ∃ d' fr x6 x7 x8, MRnd cs top (i' + 1) d d' fr ∧ (∀ p ∈ ps.take j, Done cs top (i' + 1) d' (nb cs p)) ∧ Γ = [.sh (.tup (cs.map .int)), .sh (.int top), .ow (dV d'), .sh (.lst (ps.map .int)), .sh (.int (1 + i')), .ow (.lst (fr.map .int)), x6, x7, x8]) ⟨d, [], _, _, _, MRnd.refl I, fun p h => by simp at h, rfl⟩ ?_ ?_
      · rintro j p Γ hp ⟨d', fr, x6, x7, x8, R, hD, rfl⟩
        obtain ⟨k, ek, k0, kn, hpp, _⟩ := I.snd p _ ((hE p).mp (List.mem_of_getElem? hp))
        cases ek
        simp -implicitDefEqProofs [-Mv.eM_ap, -Mv.eSl_ap, -Mv.iSeq_ap]
        refine w_lcM (fun c : Int => .int (p + c)) (le_sz (by omega)) (fun c hc => by simp -implicitDefEqProofs [-Mv.eM_ap, -Mv.eSl_ap, -Mv.iSeq_ap]) ?_
        simp -implicitDefEqProofs [-Mv.eM_ap, -Mv.eSl_ap, -Mv.iSeq_ap]
        refine w_lcM (fun c : Int => .int (p - c)) (le_sz (by omega)) (fun c hc => by simp -implicitDefEqProofs [-Mv.eM_ap, -Mv.eSl_ap, -Mv.iSeq_ap]) ?_
        have e1 : cs.map (fun c => PV.int (p + c)) ++ cs.map (fun c => PV.int (p - c)) = (nb cs p).map PV.int := by unfold nb; rw [List.map_append, List.map_map, List.map_map]; rfl
        have hln : (nb cs p).length = cs.length + cs.length := by unfold nb; simp
        simp -implicitDefEqProofs [-Mv.eM_ap, -Mv.eSl_ap, -Mv.iSeq_ap, e1]
        refine ⟨le_sz (by omega), ?_⟩
        refine w_for0 (fun l Γ => ∃ d' fr x7 x8, MRnd cs top (i' + 1) d d' fr ∧ (∀ p ∈ ps.take j, Done cs top (i' + 1) d' (nb cs p)) ∧ Done cs top (i' + 1) d' ((nb cs p).take l) ∧ Γ = [.sh (.tup (cs.map .int)), .sh (.int top), .ow (dV d'), .sh (.lst (ps.map .int)), .sh (.int (1 + i')), .ow (.lst (fr.map .int)), .sh (.int p), x7, x8]) ⟨d', fr, _, _, R, hD, fun q h => by simp at h, rfl⟩ ?_ ?_
        · rintro l q Γ hq ⟨d', fr, x7, x8, R, hD, hQ, rfl⟩
          have hqm := List.mem_of_getElem? hq
          have hbd := R.bd I
          have htk : (nb cs p).take (l + 1) = (nb cs p).take l ++ [q] := by rw [List.take_add_one, hq]; rfl
          rw [htk]
          have skip : (-(top : Int) ≤ q → q ≤ top → (dget d' q).isSome = true) → Done cs top (i' + 1) d' ((nb cs p).take l ++ [q]) := fun h q' hq' b1 b2 => by
            rcases List.mem_append.mp hq' with hq' | hq'
            · exact hQ q' hq' b1 b2
            · rw [List.mem_singleton.mp hq'] at b1 b2 ⊢
              have := h b1 b2
              cases e : dget d' q with
              | none => rw [e] at this; cases this
              | some v =>
                rcases R.new q v e with e2 | ⟨rfl, _⟩
                · obtain ⟨k, rfl, _, kn, _⟩ := I.snd q v e2
                  exact ⟨k, rfl, by omega⟩
                · exact ⟨_, rfl, Int.le_refl _⟩
          by_cases c : (if q < 0 then -q else q) ≤ (top : Int)
          have ca : -(top : Int) ≤ q ∧ q ≤ top := by split at c <;> omega
          · cases e : dget d' q with
            | none =>
              have hp' : Pay (sgn cs) ((i' + 1 : Nat) : Int) q := by
                have := Pay.cons (nb_sgn hqm) hpp
                rwa [show (i' : Int) + 1 = ((i' + 1 : Nat) : Int) by omega, show p + (q - p) = q by omega] at this
              have R2 := R.put e hp' ca
              have D2 := hQ.put e
              have hz : d'.length < sizeLine := lt_sz (by omega)
              have hfl := R.len
              have hz2 : fr.length < sizeLine := lt_sz (by omega)
              have ex : (1 : Int) + i' = ((i' + 1 : Nat) : Int) := by omega
              simp -implicitDefEqProofs [-Mv.eM_ap, -Mv.eSl_ap, -Mv.iSeq_ap, c, e, hz, hz2]
              refine ⟨_, _, R2, fun p' hp' => (hD p' hp').put e, fun q' hq' b1 b2 => ?_, by rw [ex], by simp⟩
              rcases List.mem_append.mp hq' with hq' | hq'
              · exact D2 q' hq' b1 b2
              · rw [List.mem_singleton.mp hq']
                exact ⟨_, R2.frs q (by simp), Int.le_refl _⟩
            | some v =>
              have hs := skip fun _ _ => by rw [e]; rfl
              simp -implicitDefEqProofs [-Mv.eM_ap, -Mv.eSl_ap, -Mv.iSeq_ap, c, e]
              exact ⟨d', fr, R, hD, hs, rfl, rfl⟩
          · have hs := skip fun b1 b2 => absurd (show (if q < 0 then -q else q) ≤ (top : Int) by split <;> omega) c
            simp -implicitDefEqProofs [-Mv.eM_ap, -Mv.eSl_ap, -Mv.iSeq_ap, show ¬ (if q < 0 then -q else q) ≤ (top : Int) from c]
            exact ⟨d', fr, R, hD, hs, rfl, rfl⟩
        · rintro Γ ⟨d', fr, x7, x8, R, hD, hQ, rfl⟩
          rw [List.take_length] at hQ
          simp -implicitDefEqProofs [-Mv.eM_ap, -Mv.eSl_ap, -Mv.iSeq_ap]
          refine ⟨d', fr, R, fun p' hp' => ?_, rfl, rfl⟩
          rw [List.take_add_one, hp] at hp'
          rcases List.mem_append.mp hp' with h | h
          · exact hD p' h
          · rw [show p' = p by simpa using h]; exact hQ
      · rintro Γ ⟨d', fr, x6, x7, x8, R, hD, rfl⟩
        rw [List.take_length] at hD
        obtain ⟨I2, E2⟩ := R.fin I hE hD
        simp -implicitDefEqProofs [-Mv.eM_ap, -Mv.eSl_ap, -Mv.iSeq_ap]
        exact ⟨d', I2, fr, fun p => by rw [E2 p, Int.natCast_add]; rfl, rfl, rfl⟩
    · rintro Γ ⟨d, ps, x4, x5, x6, x7, x8, I, hE, rfl⟩
      rw [List.length_range] at I
      simp -implicitDefEqProofs [-Mv.eM_ap, -Mv.eSl_ap, -Mv.iSeq_ap]
      exact ⟨d, I, rfl⟩
  rintro _ ⟨d, x3, x4, x5, x6, x7, x8, I, rfl⟩
  simp -implicitDefEqProofs [-Mv.eM_ap, -Mv.eSl_ap, -Mv.iSeq_ap]
  exact ⟨d, rfl, I⟩

end Wk
end S66_

section S67_
set_option Elab.async false
set_option linter.all false
set_option maxRecDepth 100000
namespace Wk
open PySem Mv
theorem tabs_one {n : Nat} {T D : List (Option Int)} (hT : T.length = n) (hD : D.length = n) {P : Int → Option Int → Prop} (h1 : ∀ r : Int, 0 ≤ r → r < n → P r (gt T r)) (h2 : ∀ r : Int, 0 ≤ r → r < n → P r (gt D r)) (one : ∀ r v w, P r v → P r w → v = w) : T = D := by
  apply List.ext_getElem (by rw [hT, hD])
  intro i hi hi2
  have a := gt_at (T := T) (q := i) (by omega) (by omega)
  have b := gt_at (T := D) (q := i) (by omega) (by omega)
  rw [Int.toNat_natCast, List.getElem?_eq_getElem hi] at a
  rw [Int.toNat_natCast, List.getElem?_eq_getElem hi2] at b
  have := one i _ _ (h1 i (by omega) (by omega)) (h2 i (by omega) (by omega))
  rw [← this, ← Option.some.inj a] at b
  exact (Option.some.inj b).symm

theorem MInv.low {cs : List Int} {top : Nat} {d : List (Int × PV)} (I : MInv cs top top d) {ds : List Int} (hd : ∀ c ∈ ds, c ∈ cs) {B K : Int} (b0 : 0 ≤ B) (hB : ∀ c ∈ ds, 0 ≤ c ∧ c ≤ B) (hK : K * B ≤ top) (hKt : K ≤ top) {k p : Int} (h : Pay (sgn ds) k p) : 0 ≤ k ∧ -(k * B) ≤ p ∧ p ≤ k * B ∧ (k ≤ K → ∃ m : Int, dget d p = some (.int m) ∧ m ≤ k) := by
  induction h with
  | nil => exact ⟨by omega, by omega, by omega, fun _ => ⟨0, I.z, by omega⟩⟩
  | @cons c n t hc p ih =>
    obtain ⟨k0, l1, l2, ih⟩ := ih
    have hcB : -B ≤ c ∧ c ≤ B := by
      unfold sgn at hc
      rcases List.mem_append.mp hc with h | h
      · have := hB c h; omega
      · obtain ⟨x, hx, rfl⟩ := List.mem_map.mp h
        have := hB x hx; omega
    have e : (n + 1) * B = n * B + B := by rw [Int.add_mul, Int.one_mul]
    refine ⟨by omega, by omega, by omega, fun hk => ?_⟩
    obtain ⟨m, h1, h2⟩ := ih (by omega)
    have h3 : (n + 1) * B ≤ K * B := Int.mul_le_mul_of_nonneg_right hk b0
    have hnb : t + c ∈ nb cs t := sgn_nb (by
      unfold sgn at hc ⊢
      rcases List.mem_append.mp hc with h | h
      · exact List.mem_append_left _ (hd c h)
      · obtain ⟨x, hx, rfl⟩ := List.mem_map.mp h
        exact List.mem_append_right _ (List.mem_map.mpr ⟨x, hd x hx, rfl⟩))
    obtain ⟨m', h4, h5⟩ := I.clo t m h1 (by omega) _ hnb (by omega) (by omega)
    exact ⟨m', h4, by omega⟩
/-- the least losses, from the rounds -/
structure DInv (d : List (Int × PV)) (G : Nat) (lo hi : Int) (T : List (Option Int)) : Prop where
  len : T.length = G
  has : ∀ r : Int, 0 ≤ r → r < G → ∀ w, gt T r = some w → ∃ p k, lo ≤ p ∧ p < hi ∧ dget d p = some (.int k) ∧ p % G = r ∧ w = G * k - p
  low : ∀ p k, lo ≤ p → p < hi → dget d p = some (.int k) → Lo (gt T (p % G)) (G * k - p)
theorem isW_due {cs : List Int} {G : Nat} {C : Nat} {top : Nat} {d : List (Int × PV)} (E : ∀ c ∈ cs, c ∈ cs.dropLast ∨ c = G) (hG : 0 < G) (r1 : ∀ c ∈ cs, 1 ≤ c ∧ c ≤ (G : Int)) (hC : ∀ c ∈ cs.dropLast, c ≤ (C : Int)) {e : Int} (he : (G - 1 : Nat) * (C : Int) ≤ e ∨ cs.dropLast = [] ∧ 0 ≤ e) (ht : e + 2 * G ≤ top) (I : MInv cs top top d) {T : List (Option Int)} (D : DInv d G (-e) (e + 1) T) {r : Int} (r0 : 0 ≤ r) (r2 : r < G) : IsW (sgn cs.dropLast) G (-1) G r (gt T r) := by
  have c1 : ∀ c ∈ cs.dropLast, 1 ≤ c ∧ c ≤ (G : Int) := fun c hc => r1 c (List.dropLast_subset _ hc)
  have wnn : ∀ c ∈ sgn cs.dropLast, 0 ≤ (G : Int) + -1 * c := fun c hc => by
    unfold sgn at hc
    rcases List.mem_append.mp hc with h | h
    · have := c1 c h; omega
    · obtain ⟨x, hx, rfl⟩ := List.mem_map.mp h
      have := c1 x hx; omega
  -- a small one is found
  have small : ∀ n t, Pay (sgn cs.dropLast) n t → ∃ p k, -e ≤ p ∧ p < e + 1 ∧ dget d p = some (.int k) ∧ p % G = t % G ∧ (G : Int) * k - p ≤ G * n - t ∧ ∃ n', Pay (sgn cs.dropLast) n' p ∧ k ≤ n' ∧ (G : Int) * n' - p ≤ G * n - t := fun n t p => by
    obtain ⟨n', t', p', hn', ht', hw⟩ := Pay.small (m := G) (ds := sgn cs.dropLast) (a := G) (b := -1) hG (fun c hc => .inl hc) (by omega) wnn p
    have hw : (G : Int) * n' - t' ≤ G * n - t := by omega
    rcases he with he | ⟨he, e0⟩
    · have hz : (0 : Int) ≤ (G - 1 : Nat) * (C : Int) := Int.mul_nonneg (by omega) (by omega)
      obtain ⟨k0, l1, l2, hf⟩ := I.low (K := (G - 1 : Nat)) (B := C) (fun c hc => List.dropLast_subset _ hc) (by omega) (fun c hc => ⟨by have := c1 c hc; omega, hC c hc⟩) (by omega) (by omega) p'
      have hk : n' ≤ ((G - 1 : Nat) : Int) := by omega
      obtain ⟨m, h1, h2⟩ := hf hk
      have h3 : n' * (C : Int) ≤ (G - 1 : Nat) * (C : Int) := Int.mul_le_mul_of_nonneg_right hk (by omega)
      have h4 : (G : Int) * m ≤ G * n' := Int.mul_le_mul_of_nonneg_left h2 (by omega)
      exact ⟨t', m, by omega, by omega, h1, ht', by omega, n', p', h2, hw⟩
    · rw [he] at p'
      have : n' = 0 ∧ t' = 0 := by
        cases p' with
        | nil => exact ⟨rfl, rfl⟩
        | cons h _ => cases h
      obtain ⟨rfl, rfl⟩ := this
      exact ⟨0, 0, by omega, by omega, I.z, ht', hw, 0, by rw [he]; exact .nil, Int.le_refl _, hw⟩
  -- what is found is a payment, the greatest coin left aside
  have back : ∀ n t, Pay (sgn cs) n t → ∃ n' t', Pay (sgn cs.dropLast) n' t' ∧ t' % G = t % G ∧ (G : Int) * n' - t' ≤ G * n - t := fun n t p => by
    obtain ⟨q, p1⟩ := p.aside (ds := sgn cs.dropLast ++ [-(G : Int)]) (m := G) fun c hc => by
      unfold sgn at hc ⊢
      rcases List.mem_append.mp hc with h | h
      · rcases E c h with h | h
        · exact .inl (by simp [h])
        · exact .inr h
      · obtain ⟨x, hx, rfl⟩ := List.mem_map.mp h
        rcases E x hx with h | h
        · exact .inl (List.mem_append_left _ (List.mem_append_right _ (List.mem_map.mpr ⟨x, h, rfl⟩)))
        · exact .inl (List.mem_append_right _ (by rw [h]; simp))
    obtain ⟨q2, p2⟩ := p1.aside (ds := sgn cs.dropLast) (m := -(G : Int)) fun c hc => by
      rcases List.mem_append.mp hc with h | h
      · exact .inl h
      · exact .inr (List.mem_singleton.mp h)
    refine ⟨_, _, p2, ?_, ?_⟩
    · have e1 : t - (q : Int) * G - q2 * -(G : Int) = t + G * (q2 - q) := by rw [Int.mul_neg, Int.mul_sub, Int.mul_comm (G : Int) q2, Int.mul_comm (G : Int) q]; omega
      rw [e1, Int.add_mul_emod_self_left]
    · have h1 : 0 ≤ (q2 : Int) * G := Int.mul_nonneg (by omega) (by omega)
      rw [Int.mul_sub, Int.mul_sub, Int.mul_neg, Int.mul_comm (G : Int) q, Int.mul_comm (G : Int) q2]
      omega
  have Dlow := D.low
  cases hv : gt T r with
  | none =>
    intro n t p hr
    obtain ⟨p', k, b1, b2, h1, h2, _⟩ := small n t p
    obtain ⟨a, h3, _⟩ := Dlow p' k b1 b2 h1
    rw [h2, hr, hv] at h3
    cases h3
  | some w =>
    obtain ⟨p, k, b1, b2, h1, h2, hw⟩ := D.has r r0 r2 w hv
    obtain ⟨k', ek, _, _, hp, _⟩ := I.snd p _ h1
    cases ek
    have lows : ∀ n t, Pay (sgn cs.dropLast) n t → t % G = r → w ≤ G * n - t := fun n t q hr => by
      obtain ⟨p', k', b1, b2, h1, h2, h3, _⟩ := small n t q
      obtain ⟨a, h4, h5⟩ := Dlow p' k' b1 b2 h1
      rw [h2, hr, hv] at h4
      cases h4
      omega
    obtain ⟨n', t', q, hr, hl⟩ := back k p hp
    have := lows n' t' q (by rw [hr, h2])
    exact ⟨⟨n', t', q, by rw [hr, h2], by omega⟩, fun n t q hr => by have := lows n t q hr; omega⟩

end Wk
end S67_

section S68_
set_option Elab.async false
set_option linter.all false
set_option maxRecDepth 100000
namespace Wk
open PySem Mv
theorem DInv.put {d : List (Int × PV)} {G : Nat} {lo hi : Int} {T : List (Option Int)} (D : DInv d G lo hi T) (hG : 0 < G) (hl : lo ≤ hi) {k v : Int} (e : dget d hi = some (.int k)) (hv : v = G * k - hi ∨ gt T (hi % G) = some v) (hle : v ≤ G * k - hi) (hlow : ∀ u, gt T (hi % G) = some u → v ≤ u) : DInv d G lo (hi + 1) (T.set (hi % G).toNat (some v)) := by
  have q0 := Int.emod_nonneg hi (show (G : Int) ≠ 0 by omega)
  have q1 := Int.emod_lt_of_pos hi (show (0 : Int) < G by omega)
  have hT := D.len
  refine ⟨by rw [List.length_set]; exact hT, fun r r0 r1 w hw => ?_, fun p k' b1 b2 h => ?_⟩
  · rw [gt_set q0 (by omega) r0] at hw
    by_cases c : r = hi % G
    · rw [if_pos c] at hw
      cases hw
      rcases hv with rfl | hv
      · exact ⟨hi, k, hl, by omega, e, c.symm, rfl⟩
      · obtain ⟨p, k', h1, h2, h3⟩ := D.has _ q0 q1 _ hv
        exact ⟨p, k', h1, by omega, h3.1, by rw [h3.2.1, c], h3.2.2⟩
    · rw [if_neg c] at hw
      obtain ⟨p, k', h1, h2, h3⟩ := D.has r r0 r1 w hw
      exact ⟨p, k', h1, by omega, h3⟩
  · have p0 := Int.emod_nonneg p (show (G : Int) ≠ 0 by omega)
    rw [gt_set q0 (by omega) p0]
    by_cases c : p % G = hi % G
    · rw [if_pos c]
      refine ⟨v, rfl, ?_⟩
      by_cases c2 : p = hi
      · subst c2
        rw [e] at h
        cases h
        exact hle
      · obtain ⟨a, h1, h2⟩ := D.low p k' b1 (by omega) h
        rw [c] at h1
        have := hlow a h1
        omega
    · rw [if_neg c]
      by_cases c2 : p = hi
      · subst c2; exact absurd rfl c
      · exact D.low p k' b1 (by omega) h
theorem DInv.skip {d : List (Int × PV)} {G : Nat} {lo hi : Int} {T : List (Option Int)} (D : DInv d G lo hi T) (e : dget d hi = none) : DInv d G lo (hi + 1) T :=
  ⟨D.len, fun r r0 r1 w hw => by
    obtain ⟨p, k', h1, h2, h3⟩ := D.has r r0 r1 w hw
    exact ⟨p, k', h1, by omega, h3⟩, fun p k' b1 b2 h => by
    by_cases c2 : p = hi
    · subst c2; rw [e] at h; cases h
    · exact D.low p k' b1 (by omega) h⟩
section
variable {cs : List Int} {l G C : Nat} (A : Asc cs 1 24) (E : Edg cs l G) (hG : G ≤ 24) (S : Snd cs C) (hl : cs.length ≤ 15)
include A E hG S hl
theorem law_due : wF (F_law_due [.sh (.tup (cs.map .int))]) fun s out => ∃ T : List (Option Int), s = .sh (.tup (T.map oi)) ∧ out = [] ∧ T.length = G ∧ (∀ r : Int, 0 ≤ r → r < G → IsW (sgn cs.dropLast) G (-1) G r (gt T r)) ∧ ∀ v ∈ T, ∀ i, v = some i → i.natAbs < 10 ^ 9 := by
  refine w_law_due ?_
  have h1 := E.l1
  have h2 := E.lG
  have e1 : ((G - 1 : Nat) : Int) = G - 1 := by omega
  have e4 : (((G - 1) * C : Nat) : Int) = ((G : Int) - 1) * C := by rw [Int.natCast_mul, e1]
  have m1 : ∀ x : Int, mulOk ((G : Int) - 1) x = true ∨ mulOkW ((G : Int) - 1) x = true := fun x => mulOr_l (by omega) (by omega)
  have m2 : ∀ x : Int, mulOk 2 x = true ∨ mulOkW 2 x = true := fun x => mulOr_l (by omega) (by omega)
  have m3 : ∀ x : Int, mulOk (G : Int) x = true ∨ mulOkW (G : Int) x = true := fun x => mulOr_l (by omega) (by omega)
  have he0 : E0 cs G C ≤ 3600 := E0_le (by omega) S.le
  have hE : (((G - 1 : Nat) : Int) * (C : Int) ≤ (E0 cs G C : Nat)) ∨ cs.dropLast = [] ∧ (0 : Int) ≤ (E0 cs G C : Nat) := by
    unfold E0
    by_cases c : 1 < cs.length
    · rw [if_pos c]; exact .inl (by rw [Int.natCast_mul]; omega)
    · rw [if_neg c]
      refine .inr ⟨List.length_eq_zero_iff.mp (by rw [List.length_dropLast]; omega), by omega⟩
  unfold b_law_due
  refine w_cut (fun Γ => Γ = [.sh (.tup (cs.map .int)), .sh (.int G), .un, .un, .un, .un, .un, .un]) ?_ ?_
  · simp -implicitDefEqProofs [-Mv.eM_ap, -Mv.eSl_ap, -Mv.iSeq_ap, E.atL]
  rintro _ rfl
  refine w_cut (fun Γ => Γ = [.sh (.tup (cs.map .int)), .sh (.int G), .sh (.int (E0 cs G C)), .un, .un, .un, .un, .un]) ?_ ?_
  · unfold E0
    by_cases h : 1 < cs.length
    · have aC := S.at2 h
      simp -implicitDefEqProofs [-Mv.eM_ap, -Mv.eSl_ap, -Mv.iSeq_ap, aC, h, m1, e4]
      exact fun h' => absurd h' (by omega)
    · simp -implicitDefEqProofs [-Mv.eM_ap, -Mv.eSl_ap, -Mv.iSeq_ap, h]
      exact fun h' => absurd h' (by omega)
  rintro _ rfl
  generalize hX : E0 cs G C = e at *
  have hmv := law_moves (cs := cs) (top := e + 2 * G) hl (by omega)
  have ex : (((e + 2 * G : Nat)) : Int) = (e : Int) + 2 * G := by omega
  rw [ex] at hmv
  refine w_cut (fun Γ => ∃ d, MInv cs (e + 2 * G) (e + 2 * G) d ∧ Γ = [.sh (.tup (cs.map .int)), .sh (.int G), .sh (.int e), .ow (dV d), .ow (.lst (List.replicate G .non)), .un, .un, .un]) ?_ ?_
  · have e2 : repL (.lst [.non]) (.int (G : Int)) = some (.tmp (.lst (List.replicate G .non))) := rep_one .non (m := G) (by omega)
    simp -implicitDefEqProofs [-Mv.eM_ap, -Mv.eSl_ap, -Mv.iSeq_ap, m2]
    refine wF_mono hmv ?_
    rintro s out ⟨d, rfl, rfl, I⟩
    simp -implicitDefEqProofs [-Mv.eM_ap, -Mv.eSl_ap, -Mv.iSeq_ap, e2, mvs]
    exact ⟨d, I, rfl⟩
  rintro _ ⟨d, I, rfl⟩
  have D0 : DInv d G (-(e : Int)) (-(e : Int)) (List.replicate G none) := ⟨by simp, fun r r0 r1 w h => by
    unfold gt at h
    rw [List.getD_eq_getElem?_getD, List.getElem?_replicate] at h
    (split at h) <;> (cases h), fun p k b1 b2 => by omega⟩
  simp -implicitDefEqProofs [-Mv.eM_ap, -Mv.eSl_ap, -Mv.iSeq_ap]
  refine ⟨rg_t (by omega) (by omega), rg_t (by omega) (by omega), ?_⟩
  rw [rgL_nat, show ((e : Int) + 1 - -(e : Int)).toNat = 2 * e + 1 by omega]
  refine w_for0 (fun i Γ => ∃ T x5 x6 x7, DInv d G (-(e : Int)) (-(e : Int) + i) T ∧ Γ = [.sh (.tup (cs.map .int)), .sh (.int G), .sh (.int e), .ow (dV d), .ow (.lst (T.map oi)), x5, x6, x7]) ⟨List.replicate G none, _, _, _, by simpa using D0, by rw [List.map_replicate]; rfl⟩ ?_ ?_
  · rintro i i' Γ hi ⟨T, x5, x6, x7, D, rfl⟩
    obtain ⟨g1, g2⟩ := List.getElem?_eq_some_iff.mp hi
    have g3 : i' = i := by rw [← g2]; simp
    subst g3
    have hnx : -(e : Int) + ((i' + 1 : Nat) : Int) = -(e : Int) + i' + 1 := by omega
    rw [hnx]
    generalize hp : -(e : Int) + (i' : Int) = p at *
    cases eq : dget d p with
    | none =>
      have := D.skip eq
      simp -implicitDefEqProofs [-Mv.eM_ap, -Mv.eSl_ap, -Mv.iSeq_ap, eq]
      exact ⟨T, this, rfl⟩
    | some v =>
      obtain ⟨k, rfl, k0, k1, _⟩ := I.snd p v eq
      have q0 := Int.emod_nonneg p (show (G : Int) ≠ 0 by omega)
      have q1 := Int.emod_lt_of_pos p (show (0 : Int) < G by omega)
      have hTl := D.len
      have aT : L2.atI (T.map oi) (p % G) = some (oi (gt T (p % G))) := at_map q0 (gt_at q0 (by rw [hTl]; exact q1))
      cases hv : gt T (p % G) with
      | none =>
        rw [hv] at aT
        have := D.put (by omega) (by omega) eq (v := G * k - p) (.inl rfl) (Int.le_refl _) (fun u h => by rw [hv] at h; cases h)
        have hx : L2.ixN G (p % (G : Int)) = some (p % (G : Int)).toNat := ix_nat q0 q1
        simp -implicitDefEqProofs [-Mv.eM_ap, -Mv.eSl_ap, -Mv.iSeq_ap, eq, aT, m3, mvs, show (0 : Int) < G by omega, hTl, hx]
        exact ⟨by omega, _, this, by rw [List.map_set]; rfl⟩
      | some u =>
        rw [hv] at aT
        have hx : L2.ixN G (p % (G : Int)) = some (p % (G : Int)).toNat := ix_nat q0 q1
        have hv2 : (if (G : Int) * k - p < u then (G : Int) * k - p else u) = G * k - p ∨ gt T (p % G) = some (if (G : Int) * k - p < u then (G : Int) * k - p else u) := by
          split
          · exact .inl rfl
          · exact .inr hv
        have := D.put (by omega) (by omega) eq hv2 (by split <;> omega) (fun u' h => by rw [hv] at h; cases h; split <;> omega)
        simp -implicitDefEqProofs [-Mv.eM_ap, -Mv.eSl_ap, -Mv.iSeq_ap, eq, aT, m3, mvs, show (0 : Int) < G by omega, hTl, hx]
        exact ⟨by omega, _, this, by rw [List.map_set]; rfl⟩
  · rintro Γ ⟨T, x5, x6, x7, D, rfl⟩
    have hlen : (List.range (2 * e + 1)).length = 2 * e + 1 := by simp
    rw [hlen, show -(e : Int) + ((2 * e + 1 : Nat) : Int) = e + 1 by omega] at D
    have := fun r (r0 : 0 ≤ r) (r1 : r < (G : Int)) => isW_due (r := r) E.last (by omega) (fun c hc => ⟨(A.rg c hc).1, E.hi c hc⟩) S.hi hE (show (e : Int) + 2 * G ≤ ((e + 2 * G : Nat) : Int) by omega) I D r0 r1
    simp -implicitDefEqProofs [-Mv.eM_ap, -Mv.eSl_ap, -Mv.iSeq_ap]
    exact ⟨T, rfl, D.len, this, fun v hv i ei => by
      obtain ⟨j, hj, rfl⟩ := List.getElem_of_mem hv
      have hg := gt_at (T := T) (q := j) (by omega) (by omega)
      rw [Int.toNat_natCast, List.getElem?_eq_getElem hj, ei] at hg
      obtain ⟨p, k, b1, b2, h, _, hw⟩ := D.has j (by omega) (by rw [D.len] at hj; omega) i (Option.some.inj hg).symm
      obtain ⟨k', ek, k0, k1, _⟩ := I.snd p _ h
      cases ek
      have h5 : (G : Int) * k ≤ 24 * 4000 := Int.mul_le_mul (by omega) (by omega) (by omega) (by decide)
      have h6 : 0 ≤ (G : Int) * k := Int.mul_nonneg (by omega) (by omega)
      have : (10 : Nat) ^ 9 = 1000000000 := by decide
      omega⟩
end

end Wk
end S68_

section S69_
set_option Elab.async false
set_option linter.all false
set_option maxRecDepth 100000
namespace Wk
open PySem Mv
def mvs2 (cs : List Int) (G : Nat) : List (Int × Int) := (cs.dropLast.map fun c => (c, (G : Int) - c)) ++ cs.dropLast.map fun c => ((G : Int) - c, (G : Int) + c)
theorem least_moves {cs : List Int} {G : Nat} (hc : ∀ c ∈ cs, 1 ≤ c ∧ c ≤ G) (hG : G ≤ 1000) (hl : cs.length ≤ 1000) (h0 : 0 < G) (aL : L2.atI (cs.map PV.int) (-1) = some (.int G)) : wF (F_least_moves [.sh (.tup (cs.map .int))]) fun r out => ∃ T, r = .ow (.lst (T.map oi)) ∧ out = [] ∧ CTab (mvs2 cs G) G T := by
  refine w_least_moves ?_
  have hd : cs.dropLast.length ≤ 1000 := by rw [List.length_dropLast]; omega
  have h := least_costs (ps := mvs2 cs G) h0 hG (fun p hp => by
    unfold mvs2 at hp
    rcases List.mem_append.mp hp with hp | hp
    · obtain ⟨c, hc', rfl⟩ := List.mem_map.mp hp
      have := hc c (List.dropLast_subset _ hc')
      exact ⟨by simp; omega, by simp; omega⟩
    · obtain ⟨c, hc', rfl⟩ := List.mem_map.mp hp
      have := hc c (List.dropLast_subset _ hc')
      exact ⟨by simp; omega, by simp; omega⟩)
  unfold b_least_moves
  refine w_cut (fun Γ => Γ = [.sh (.tup (cs.map .int)), .sh (.int G), .un, .un]) ?_ ?_
  · simp -implicitDefEqProofs [-Mv.eM_ap, -Mv.eSl_ap, -Mv.iSeq_ap, aL]
  rintro _ rfl
  refine w_cut (fun Γ => Γ = [.sh (.tup (cs.map .int)), .sh (.int G), .ow (.lst ((cs.dropLast.map fun c => (c, (G : Int) - c)).map prV)), .un]) ?_ ?_
  · simp -implicitDefEqProofs [-Mv.eM_ap, -Mv.eSl_ap, -Mv.iSeq_ap, cutP_map, cut_init]
    rw [← List.map_dropLast]
    refine w_lcM (fun c : Int => prV (c, G - c)) (le_sz (by omega)) (fun c _ => by simp -implicitDefEqProofs [-Mv.eM_ap, -Mv.eSl_ap, -Mv.iSeq_ap, prV]) ?_
    simp -implicitDefEqProofs [-Mv.eM_ap, -Mv.eSl_ap, -Mv.iSeq_ap]
    rfl
  rintro _ rfl
  have e1 : (mvs2 cs G).map prV = (cs.dropLast.map fun c => (c, (G : Int) - c)).map prV ++ cs.dropLast.map fun c => prV ((G : Int) - c, (G : Int) + c) := by
    unfold mvs2
    rw [List.map_append]
    congr 1
    rw [List.map_map]; rfl
  rw [e1] at h
  generalize hX : (cs.dropLast.map fun c => (c, (G : Int) - c)).map prV = X at *
  have hXl : X.length ≤ 1000 := by rw [← hX]; simp; omega
  rw [List.map_dropLast] at h
  simp -implicitDefEqProofs [-Mv.eM_ap, -Mv.eSl_ap, -Mv.iSeq_ap, cutP_map, cut_init]
  rw [← List.map_dropLast]
  refine w_lcM (fun c : Int => prV (G - c, G + c)) (le_sz (by omega)) (fun c _ => by simp -implicitDefEqProofs [-Mv.eM_ap, -Mv.eSl_ap, -Mv.iSeq_ap, prV]) ?_
  simp -implicitDefEqProofs [-Mv.eM_ap, -Mv.eSl_ap, -Mv.iSeq_ap]
  refine ⟨le_sz (by omega), ?_⟩
  refine wF_mono h ?_
  rintro r out ⟨T, rfl, rfl, hT⟩
  simp -implicitDefEqProofs [-Mv.eM_ap, -Mv.eSl_ap, -Mv.iSeq_ap]
  exact ⟨T, rfl, hT⟩
/-- what is not None -/
def nums (T : List (Option Int)) : List Int := T.filterMap id
theorem nums_map (T : List (Option Int)) : (T.filter Option.isSome).map oi = (nums T).map PV.int := by
  unfold nums
  induction T with
  | nil => rfl
  | cons v T ih =>
    cases v with
    | none => simpa using ih
    | some i => simp [ih]
theorem nums_mem {T : List (Option Int)} {i : Int} : i ∈ nums T ↔ some i ∈ T := by unfold nums; simp
def wrs (T : List (Option Int)) (w : Int) : List Int := (T.zipIdx.filter fun z => decide (z.1 = some w)).map fun z => (z.2 : Int)
theorem wrs_range (T : List (Option Int)) (w : Int) : ((List.range T.length).filter fun i => decide (T[i]? = some (some w))).map (fun i : Nat => (i : Int)) = wrs T w := by
  unfold wrs
  have e : T.zipIdx = (List.range T.length).map fun i => (T.getD i none, i) := by
    apply List.ext_getElem
    · simp
    · intro i h1 h2
      simp at h1 h2
      simp [List.getD_eq_getElem?_getD, h2]
  rw [e, List.filter_map, List.map_map]
  congr 1
  refine List.filter_congr fun i hi => ?_
  have hi := List.mem_range.mp hi
  simp [List.getD_eq_getElem?_getD, hi]
theorem oEq_oi (v : Option Int) (w : Int) : oEq (oi v) (.int w) = some (.val (.bl (decide (v = some w)))) := by
  cases v with
  | none => exact oEq_ap (by unfold eqP pd; simp [SeqAt.shaped, PyData.canLay0, PyData.depth, PyData.eqv])
  | some i => rw [oi_some, oEq_i]; simp
theorem moved_losses {cs : List Int} {G : Nat} (hc : ∀ c ∈ cs, 1 ≤ c ∧ c ≤ G) (hG : G ≤ 1000) (hl : cs.length ≤ 1000) (h0 : 0 < G) (aL : L2.atI (cs.map PV.int) (-1) = some (.int G)) : wF (F_moved_losses [.sh (lotV cs)]) fun r out => ∃ T, r = .sh (.tup (T.map oi)) ∧ out = [] ∧ CTab (mvs2 cs G) G T := by
  refine w_moved_losses ?_
  simp -implicitDefEqProofs [-Mv.eM_ap, -Mv.eSl_ap, -Mv.iSeq_ap, b_moved_losses, lot_check, lot_coins]
  refine wF_mono (least_moves hc hG hl h0 aL) ?_
  rintro r out ⟨T, rfl, rfl, hT⟩
  simp -implicitDefEqProofs [-Mv.eM_ap, -Mv.eSl_ap, -Mv.iSeq_ap]
  exact ⟨T, rfl, hT⟩
theorem worst_rests {cs : List Int} {G : Nat} (hc : ∀ c ∈ cs, 1 ≤ c ∧ c ≤ G) (hG : G ≤ 1000) (hl : cs.length ≤ 1000) (h0 : 0 < G) (aL : L2.atI (cs.map PV.int) (-1) = some (.int G)) : wF (F_worst_rests [.sh (lotV cs)]) fun r out => ∃ T, (nums T ≠ [] → r = .sh (.tup [.int (imax (nums T)), .tup ((wrs T (imax (nums T))).map .int)])) ∧ out = [] ∧ CTab (mvs2 cs G) G T := by
  refine w_worst_rests ?_
  simp -implicitDefEqProofs [-Mv.eM_ap, -Mv.eSl_ap, -Mv.iSeq_ap, b_worst_rests, lot_check, lot_coins]
  refine wF_mono (least_moves hc hG hl h0 aL) ?_
  rintro r out ⟨T, rfl, rfl, hT⟩
  have hTl := hT.len
  have hne : nums T ≠ [] := fun e => by
    have h := hT.is 0 (Int.le_refl 0) (by omega)
    cases eg : gt T 0 with
    | none => rw [eg] at h; exact h 0 0 .nil (by simp)
    | some w =>
      have h1 := gt_at (T := T) (q := 0) (by omega) (by omega)
      rw [eg] at h1
      have h2 := nums_mem.mpr (List.mem_of_getElem? h1)
      rw [e] at h2; cases h2
  simp -implicitDefEqProofs [-Mv.eM_ap, -Mv.eSl_ap, -Mv.iSeq_ap]
  refine w_lcF (em := oi) Option.isSome oi (le_sz (by omega)) ?_ ?_
  · intro v hv
    cases v with
    | none => simp -implicitDefEqProofs [-Mv.eM_ap, -Mv.eSl_ap, -Mv.iSeq_ap]
    | some i => simp -implicitDefEqProofs [-Mv.eM_ap, -Mv.eSl_ap, -Mv.iSeq_ap]
  rw [nums_map]
  simp -implicitDefEqProofs [-Mv.eM_ap, -Mv.eSl_ap, -Mv.iSeq_ap, hne]
  rw [enumL_map]
  refine w_lcF (em := fun z : Option Int × Nat => PV.tup [.int (z.2 : Int), oi z.1]) (fun z => decide (z.1 = some (imax (nums T)))) (fun z => .int (z.2 : Int)) (le_sz (by simp; omega)) ?_ ?_
  · intro z hz
    obtain ⟨v, k⟩ := z
    simp -implicitDefEqProofs [-Mv.eM_ap, -Mv.eSl_ap, -Mv.iSeq_ap, oEq_oi]
  · rw [show (T.zipIdx.filter fun z => decide (z.1 = some (imax (nums T)))).map (fun z => PV.int (z.2 : Int)) = (wrs T (imax (nums T))).map PV.int by unfold wrs; rw [List.map_map]; rfl]
    exact ⟨T, fun _ => ⟨rfl, rfl⟩, hT⟩

end Wk
end S69_

section S70_
set_option Elab.async false
set_option linter.all false
set_option maxRecDepth 100000
namespace Wk
open PySem Mv
theorem mvs2_isW {cs : List Int} {G : Nat} {r : Int} {v : Option Int} (h : IsCost (mvs2 cs G) G r v) : IsW (sgn cs.dropLast) G (-1) G r v := by
  refine isW_of ?_ ?_ h
  · intro s c hsc
    unfold mvs2 at hsc
    unfold sgn
    rcases List.mem_append.mp hsc with h | h
    · obtain ⟨x, hx, e⟩ := List.mem_map.mp h
      cases e
      exact ⟨s, List.mem_append_left _ hx, rfl, by omega⟩
    · obtain ⟨x, hx, e⟩ := List.mem_map.mp h
      cases e
      exact ⟨-x, List.mem_append_right _ (List.mem_map.mpr ⟨x, hx, rfl⟩), by rw [show (G : Int) - x = -x + G * 1 by omega, Int.add_mul_emod_self_left], by omega⟩
  · intro x hx
    unfold sgn at hx
    unfold mvs2
    rcases List.mem_append.mp hx with h | h
    · exact .inl ⟨x, List.mem_append_left _ (List.mem_map.mpr ⟨x, h, by rw [show (G : Int) - x = G + -1 * x by omega]⟩), rfl⟩
    · obtain ⟨y, hy, rfl⟩ := List.mem_map.mp h
      exact .inl ⟨(G : Int) - y, List.mem_append_right _ (List.mem_map.mpr ⟨y, hy, by rw [show (G : Int) + y = G + -1 * -y by omega]⟩), by rw [show (G : Int) - y = -y + G * 1 by omega, Int.add_mul_emod_self_left]⟩
theorem law_right {o : OV} (B : Bag o) : wF (F_law_right [.ow o]) fun s out => ∃ o', s = .sh (.bl true) ∧ out = [o'] ∧ Bag o' := by
  refine w_law_right ?_
  unfold b_law_right
  refine w_cut (fun Γ => ∃ (cs : List Int) (o' : OV), Bag o' ∧ Asc cs 1 24 ∧ cs ≠ [] ∧ cs.length ≤ 15 ∧ Γ = [.ow o', .sh (.tup (cs.map .int)), .un, .un, .un, .un, .un, .un]) ?_ ?_
  · simp -implicitDefEqProofs [-Mv.eM_ap, -Mv.eSl_ap, -Mv.iSeq_ap]
    refine wF_mono (some1 B (by decide) (by decide) _ (.inl rfl)) ?_
    rintro s out ⟨p, o', rfl, rfl, hp, B'⟩
    obtain ⟨top, rfl, t1, t2⟩ : ∃ top : Int, p = .int top ∧ 3 ≤ top ∧ top ≤ 24 := by
      simp at hp
      rcases hp with rfl | rfl | rfl <;> exact ⟨_, rfl, by decide, by decide⟩
    simp -implicitDefEqProofs [-Mv.eM_ap, -Mv.eSl_ap, -Mv.iSeq_ap]
    refine wF_mono (coins B' (by decide) (by decide) t1 (by omega)) ?_
    rintro s out ⟨cs, o', rfl, rfl, B', hcs, h0, hl⟩
    simp -implicitDefEqProofs [-Mv.eM_ap, -Mv.eSl_ap, -Mv.iSeq_ap]
    exact ⟨cs, o', B', ⟨hcs.pw, fun c hc => by have := hcs.rg c hc; omega⟩, h0, by omega, rfl, rfl⟩
  rintro _ ⟨cs, o', B', A, h0, hl, rfl⟩
  obtain ⟨l, G, E, hG⟩ := edg_of (top := 24) A h0
  have A60 : Asc cs 1 60 := ⟨A.pw, fun c hc => by have := A.rg c hc; omega⟩
  obtain ⟨C, S⟩ := snd_of A60
  have g0 : 0 < G := by have := E.l1; have := E.lG; omega
  have hnew := lot_new A60 hl h0
  have c1 : ∀ c ∈ cs, 1 ≤ c ∧ c ≤ (G : Int) := fun c hc => ⟨(A.rg c hc).1, E.hi c hc⟩
  have hml := moved_losses c1 (by omega) (by omega) g0 E.atL
  have hwr := worst_rests c1 (by omega) (by omega) g0 E.atL
  refine w_cut (fun Γ => ∃ T : List (Option Int), T.length = G ∧ (∀ r : Int, 0 ≤ r → r < G → IsW (sgn cs.dropLast) G (-1) G r (gt T r)) ∧ (∀ v ∈ T, ∀ i, v = some i → i.natAbs < 10 ^ 9) ∧ Γ = [.ow o', .sh (.tup (cs.map .int)), .sh (lotV cs), .sh (.tup (T.map oi)), .un, .un, .un, .un]) ?_ ?_
  · simp -implicitDefEqProofs [-Mv.eM_ap, -Mv.eSl_ap, -Mv.iSeq_ap, hnew, lotO_pv]
    refine wF_mono (law_due A E hG S hl) ?_
    rintro s out ⟨T, rfl, rfl, hT, hW, hb⟩
    simp -implicitDefEqProofs [-Mv.eM_ap, -Mv.eSl_ap, -Mv.iSeq_ap, mvs]
    exact ⟨T, hT, hW, hb, rfl⟩
  rintro _ ⟨T, hTl, hW, hb, rfl⟩
  have isT : ∀ T', CTab (mvs2 cs G) G T' → T' = T := fun T' h => tabs_one h.len hTl (P := fun r v => IsW (sgn cs.dropLast) G (-1) G r v) (fun r r0 r1 => mvs2_isW (h.is r r0 r1)) hW (fun r v w h h' => h.one h')
  have hne : nums T ≠ [] := fun e => by
    have h := hW 0 (Int.le_refl 0) (by omega)
    cases eg : gt T 0 with
    | none => rw [eg] at h; exact h 0 0 .nil (by simp)
    | some w =>
      have h1 := gt_at (T := T) (q := 0) (by omega) (by omega)
      rw [eg] at h1
      have h2 := nums_mem.mpr (List.mem_of_getElem? h1)
      rw [e] at h2; cases h2
  obtain ⟨x, hx, hs⟩ := rep_2 (rep_tab (k := 9) (by decide) (by decide) hb) (by rw [hTl]; omega) (by decide)
  have hre := bRepr_ap hx
  have hon := oNe_sv hs
  refine w_cut (fun Γ => Γ = [.ow o', .sh (.tup (cs.map .int)), .sh (lotV cs), .sh (.tup (T.map oi)), .un, .un, .un, .un]) ?_ ?_
  · simp -implicitDefEqProofs [-Mv.eM_ap, -Mv.eSl_ap, -Mv.iSeq_ap]
    refine wF_mono hml ?_
    rintro s out ⟨T1, rfl, rfl, h1⟩
    have := isT T1 h1
    subst this
    simp -implicitDefEqProofs [-Mv.eM_ap, -Mv.eSl_ap, -Mv.iSeq_ap]
    refine wF_mono hml ?_
    rintro s out ⟨T2, rfl, rfl, h2⟩
    have := isT T2 h2
    subst this
    simp -implicitDefEqProofs [-Mv.eM_ap, -Mv.eSl_ap, -Mv.iSeq_ap, hre, hon]
  rintro _ rfl
  refine w_cut (fun Γ => Γ = [.ow o', .sh (.tup (cs.map .int)), .sh (lotV cs), .sh (.tup (T.map oi)), .sh (.int (imax (nums T))), .un, .un, .un]) ?_ ?_
  · simp -implicitDefEqProofs [-Mv.eM_ap, -Mv.eSl_ap, -Mv.iSeq_ap]
    refine w_lcF (em := oi) Option.isSome oi (le_sz (by omega)) ?_ ?_
    · intro v hv
      cases v with
      | none => simp -implicitDefEqProofs [-Mv.eM_ap, -Mv.eSl_ap, -Mv.iSeq_ap]
      | some i => simp -implicitDefEqProofs [-Mv.eM_ap, -Mv.eSl_ap, -Mv.iSeq_ap]
    rw [nums_map]
    simp -implicitDefEqProofs [-Mv.eM_ap, -Mv.eSl_ap, -Mv.iSeq_ap, hne]
  rintro _ rfl
  have hmx : imax (nums T) ∈ nums T := by
    cases hN : nums T with
    | nil => exact absurd hN hne
    | cons n ns =>
      have h3 := (foldl_max ns n).2.2
      show ns.foldl max n ∈ _
      rcases h3 with h3 | h3
      · rw [h3]; exact List.mem_cons_self
      · exact List.mem_cons_of_mem _ h3
  have hwb := hb _ (nums_mem.mp hmx) _ rfl
  generalize hw : imax (nums T) = w at *
  refine w_cut (fun Γ => Γ = [.ow o', .sh (.tup (cs.map .int)), .sh (lotV cs), .sh (.tup (T.map oi)), .sh (.int w), .un, .sh (.tup [.int w, .tup ((wrs T w).map .int)]), .un]) ?_ ?_
  · simp -implicitDefEqProofs [-Mv.eM_ap, -Mv.eSl_ap, -Mv.iSeq_ap]
    refine ⟨rg_t (by omega) (by omega), ?_⟩
    rw [rgL0]
    refine w_lcF (fun i : Nat => decide (T[i]? = some (some w))) (fun i : Nat => .int (i : Int)) (le_sz (by simp; omega)) ?_ ?_
    · intro i hi
      have hi := List.mem_range.mp hi
      have aT : L2.atI (T.map oi) (i : Int) = some (oi T[i]) := at_map (em := oi) (by omega) (by rw [Int.toNat_natCast]; exact List.getElem?_eq_getElem hi)
      have e2 : T[i]? = some T[i] := List.getElem?_eq_getElem hi
      simp -implicitDefEqProofs [-Mv.eM_ap, -Mv.eSl_ap, -Mv.iSeq_ap, aT, oEq_oi, e2]
    · rw [show ((List.range T.length).filter fun i : Nat => decide (T[i]? = some (some w))).map (fun i : Nat => PV.int (i : Int)) = (wrs T w).map PV.int by rw [← wrs_range, List.map_map]; rfl]
      simp -implicitDefEqProofs [-Mv.eM_ap, -Mv.eSl_ap, -Mv.iSeq_ap]
  rintro _ rfl
  have hrl : (wrs T w).length ≤ 24 ∧ ∀ i ∈ wrs T w, 0 ≤ i ∧ i < 24 := by
    rw [← wrs_range]
    refine ⟨?_, fun i hi => ?_⟩
    · rw [List.length_map]
      have := List.length_filter_le (fun i => decide (T[i]? = some (some w))) (List.range T.length)
      simp at this
      omega
    · obtain ⟨k, hk, rfl⟩ := List.mem_map.mp hi
      have := List.mem_range.mp (List.mem_filter.mp hk).1
      omega
  have rp : Rep (.tup [.int w, .tup ((wrs T w).map .int)]) 2000 2 := by
    have r1 := Rep.tup (ps := (wrs T w).map .int) (n := 3) (d := 0) fun p hp => by
      obtain ⟨i, hi, rfl⟩ := List.mem_map.mp hp
      have := hrl.2 i hi
      exact Rep.int (k := 2) (by decide) (by decide) (by show i.natAbs < 100; omega)
    have := Rep.tup (ps := [.int w, .tup ((wrs T w).map .int)]) (n := 400) (d := 1) fun p hp => by
      simp only [List.mem_cons, List.not_mem_nil, or_false] at hp
      rcases hp with rfl | rfl
      · exact (Rep.int (k := 9) (by decide) (by decide) hwb).mono (by omega) (by omega)
      · exact r1.mono (by simp; omega) (Nat.le_refl 1)
    exact this.mono (by simp) (Nat.le_refl 2)
  obtain ⟨y, hy, hys⟩ := rep_2 rp (by omega) (by omega)
  have hre2 := bRepr_ap hy
  have hoe := oEq_sv hys
  simp -implicitDefEqProofs [-Mv.eM_ap, -Mv.eSl_ap, -Mv.iSeq_ap]
  refine wF_mono hwr ?_
  rintro s out ⟨T1, e1, rfl, h1⟩
  have := isT T1 h1
  subst this
  have e1 := e1 hne
  rw [hw] at e1
  subst e1
  simp -implicitDefEqProofs [-Mv.eM_ap, -Mv.eSl_ap, -Mv.iSeq_ap]
  refine wF_mono hwr ?_
  rintro s out ⟨T2, e2, rfl, h2⟩
  have := isT T2 h2
  subst this
  have e2 := e2 hne
  rw [hw] at e2
  subst e2
  simp -implicitDefEqProofs [-Mv.eM_ap, -Mv.eSl_ap, -Mv.iSeq_ap, hre2, hoe, B']

end Wk
end S70_

section S71_
set_option Elab.async false
set_option linter.all false
set_option maxRecDepth 100000
namespace Wk
open PySem Mv
theorem all_true (n : Nat) : (List.replicate n true).all id = true := by simp
/-- all([right(bag(script, turn)) for turn in range(j)]): from the last turn's number -/
theorem turns {ns : List Int} {j : Nat} (hj : j ≤ 1000) {A1 A2 : FSem} (h1 : ∀ k : Nat, wF (A1 [.sh (.lst (ns.map .int)), .sh (.int k)]) fun s out => ∃ o, s = .ow o ∧ out = [] ∧ Bag o)
    (h2 : ∀ o, Bag o → wF (A2 [.ow o]) fun s out => ∃ o', s = .sh (.bl true) ∧ out = [o'] ∧ Bag o') :
    wR (lcL (gN 1) tYesS (fC (some 0) A2 (aS [(fC none A1 (aS [(eVar 0), (eVar 1)]))])) [1] (rgL 0 j) [] [.sh (.lst (ns.map .int)), .un]) fun qs Γ => qs = (List.replicate j true).map PV.bl ∧ Γ = [.sh (.lst (ns.map .int)), .un] := by
  rw [rgL0]
  refine w_lc0 (fun i acc Γ => acc = (List.replicate i true).map PV.bl ∧ Γ = [.sh (.lst (ns.map .int)), .un]) ⟨rfl, rfl⟩ (le_sz (by simp; omega)) ?_ ?_
  · rintro i x acc Γ hx ⟨rfl, rfl⟩
    simp -implicitDefEqProofs [-Mv.eM_ap, -Mv.eSl_ap, -Mv.iSeq_ap]
    refine wF_mono (h1 x) ?_
    rintro s out ⟨o, rfl, rfl, B⟩
    simp -implicitDefEqProofs [-Mv.eM_ap, -Mv.eSl_ap, -Mv.iSeq_ap]
    refine wF_mono (h2 o B) ?_
    rintro s out ⟨o', rfl, rfl, B'⟩
    simp -implicitDefEqProofs [-Mv.eM_ap, -Mv.eSl_ap, -Mv.iSeq_ap, List.replicate_succ']
  · rintro acc Γ ⟨rfl, rfl⟩
    simp
theorem blsL_trues (n : Nat) (Q : List Bool → Prop) (h : Q (List.replicate n true)) : wO (blsL ((List.replicate n true).map PV.bl)) Q := by rw [blsL_map]; simp -implicitDefEqProofs [-Mv.eM_ap, -Mv.eSl_ap, -Mv.iSeq_ap, h]
theorem law_true (ns : List Int) (h : ns.length ≤ 63) : F_law [.sh (.lst (ns.map PV.int))] = .ret (.sh (.bl true)) [] := wF_eq (w_law (by
  have key : ∀ z : Int, 0 ≤ z → z ≤ 1000 → rgOk z = true ∧ wR (lcL (gN 1) tYesS (fC (some 0) F_law_right (aS [(fC none F_law_bag (aS [(eVar 0), (eVar 1)]))])) [1] (rgL 0 z) [] [.sh (.lst (ns.map .int)), .un]) fun qs Γ2 => wO (blsL qs) fun a => ¬false ∈ a := fun z h0 h1 => by
    obtain ⟨j, rfl⟩ : ∃ j : Nat, z = j := ⟨z.toNat, by omega⟩
    exact ⟨rg_t (by omega) (by omega), wR_mono (turns (by omega) (fun k => bag) (fun o B => law_right B)) (by
      rintro qs Γ ⟨rfl, rfl⟩
      exact blsL_trues _ _ (by simp))⟩
  unfold b_law
  simp -implicitDefEqProofs [-Mv.eM_ap, -Mv.eSl_ap, -Mv.iSeq_ap]
  refine key _ ?_ ?_
  · (repeat' split) <;> omega
  · (repeat' split) <;> omega))

end Wk
end S71_

section S72_
open PySem PySem.W PyProof.Rows
set_option maxRecDepth 100000 in
set_option maxHeartbeats 0 in
theorem PySem.Challenge.cw_mintlots_k34_whole_losses_of_deals_and_w_holds : PySem.Challenge.rw_mintlots_k34_whole_losses_of_deals_and_w.Holds := by
  w_on; o_law; k_head; (case hw => w_witness2)
  k_fill
  refine Wk.law_end (l := PySem.Challenge.rw_mintlots_k34_whole_losses_of_deals_and_w) rfl rfl rfl (fun w h Y => PySem.W.kIn_of Y) Wk.law_true ?F
  case F =>
    intro w mg h KX G
    refine' Wk.tx_mk KX G ?a_law_grab ?l_law_grab ?q_law_grab ?k_law_grab ?a_law_some ?l_law_some ?q_law_some ?k_law_some ?a_law_coins ?l_law_coins ?q_law_coins ?k_law_coins ?a_is_integer ?l_is_integer ?q_is_integer ?k_is_integer ?a_is_within_bounds ?l_is_within_bounds ?q_is_within_bounds ?k_is_within_bounds ?a_first_wrong ?l_first_wrong ?q_first_wrong ?k_first_wrong ?a_law_moves ?l_law_moves ?q_law_moves ?k_law_moves ?a_law_due ?l_law_due ?q_law_due ?k_law_due ?a_check_lot ?l_check_lot ?q_check_lot ?k_check_lot ?a_common_divisor ?l_common_divisor ?q_common_divisor ?k_common_divisor ?a_eased ?l_eased ?q_eased ?k_eased ?a_least_costs ?l_least_costs ?q_least_costs ?k_least_costs ?a_least_moves ?l_least_moves ?q_least_moves ?k_least_moves ?a_moved_losses ?l_moved_losses ?q_moved_losses ?k_moved_losses ?a_worst_rests ?l_worst_rests ?q_worst_rests ?k_worst_rests ?a_law_right ?l_law_right ?q_law_right ?k_law_right ?a_law_bag ?l_law_bag ?q_law_bag ?k_law_bag ?a_law ?l_law ?q_law ?k_law ?a_Lot ?pg_Lot ?hd_Lot ?po_Lot ?sa_Lot ?ha_Lot ?hm_Lot ?mk_Lot ?kp_Lot ?hn_Lot ?htk_Lot ?a_ini_Lot ?i_ini_Lot ?l_ini_Lot ?q_ini_Lot ?k_ini_Lot ?a_prp_Lot_coins ?j_prp_Lot_coins ?t_prp_Lot_coins ?x_prp_Lot_coins ?l_prp_Lot_coins ?q_prp_Lot_coins ?k_prp_Lot_coins ?z_abs ?z_all ?z_bool ?z_divmod ?z_enumerate ?z_int ?z_isinstance ?z_len ?z_max ?z_min ?z_range ?z_repr ?z_set ?z_sorted ?z_tuple ?n_Lot_kinds ?kt_Lot ?kc_Lot_NoneType ?kc_Lot_bool ?kc_Lot_int ?kc_Lot_str ?kc_Lot_tuple ?kc_Lot_list ?ki_Lot_bool ?ki_Lot_int ?ki_Lot_tuple ?v_MOST_COIN ?v_MOST_COINS
    (case a_law_grab => k_is)
    (case l_law_grab => k_is)
    (case q_law_grab => k_is)
    (case k_law_grab => k_is)
    (case a_law_some => k_is)
    (case l_law_some => k_is)
    (case q_law_some => k_is)
    (case k_law_some => k_is)
    (case a_law_coins => k_is)
    (case l_law_coins => k_is)
    (case q_law_coins => k_is)
    (case k_law_coins => k_is)
    (case a_is_integer => k_is)
    (case l_is_integer => k_is)
    (case q_is_integer => k_is)
    (case k_is_integer => k_is)
    (case a_is_within_bounds => k_is)
    (case l_is_within_bounds => k_is)
    (case q_is_within_bounds => k_is)
    (case k_is_within_bounds => k_is)
    (case a_first_wrong => k_is)
    (case l_first_wrong => k_is)
    (case q_first_wrong => k_is)
    (case k_first_wrong => k_is)
    (case a_law_moves => k_is)
    (case l_law_moves => k_is)
    (case q_law_moves => k_is)
    (case k_law_moves => k_is)
    (case a_law_due => k_is)
    (case l_law_due => k_is)
    (case q_law_due => k_is)
    (case k_law_due => k_is)
    (case a_check_lot => k_is)
    (case l_check_lot => k_is)
    (case q_check_lot => k_is)
    (case k_check_lot => k_is)
    (case a_common_divisor => k_is)
    (case l_common_divisor => k_is)
    (case q_common_divisor => k_is)
    (case k_common_divisor => k_is)
    (case a_eased => k_is)
    (case l_eased => k_is)
    (case q_eased => k_is)
    (case k_eased => k_is)
    (case a_least_costs => k_is)
    (case l_least_costs => k_is)
    (case q_least_costs => k_is)
    (case k_least_costs => k_is)
    (case a_least_moves => k_is)
    (case l_least_moves => k_is)
    (case q_least_moves => k_is)
    (case k_least_moves => k_is)
    (case a_moved_losses => k_is)
    (case l_moved_losses => k_is)
    (case q_moved_losses => k_is)
    (case k_moved_losses => k_is)
    (case a_worst_rests => k_is)
    (case l_worst_rests => k_is)
    (case q_worst_rests => k_is)
    (case k_worst_rests => k_is)
    (case a_law_right => k_is)
    (case l_law_right => k_is)
    (case q_law_right => k_is)
    (case k_law_right => k_is)
    (case a_law_bag => k_is)
    (case l_law_bag => k_is)
    (case q_law_bag => k_is)
    (case k_law_bag => k_is)
    (case a_law => k_is)
    (case l_law => k_is)
    (case q_law => k_is)
    (case k_law => k_is)
    (case a_Lot => k_is)
    (case pg_Lot => k_is)
    (case hd_Lot => k_is)
    (case po_Lot => k_is)
    (case sa_Lot => k_is)
    (case ha_Lot => k_is)
    (case hm_Lot => k_is)
    (case mk_Lot => k_is)
    (case kp_Lot => k_is)
    (case hn_Lot => k_is)
    (case htk_Lot => k_is)
    (case a_ini_Lot => k_is)
    (case i_ini_Lot => k_is)
    (case l_ini_Lot => k_is)
    (case q_ini_Lot => k_is)
    (case k_ini_Lot => k_is)
    (case a_prp_Lot_coins => k_is)
    (case j_prp_Lot_coins => k_is)
    (case t_prp_Lot_coins => k_is)
    (case x_prp_Lot_coins => k_is)
    (case l_prp_Lot_coins => k_is)
    (case q_prp_Lot_coins => k_is)
    (case k_prp_Lot_coins => k_is)
    (case z_abs => k_is)
    (case z_all => k_is)
    (case z_bool => k_is)
    (case z_divmod => k_is)
    (case z_enumerate => k_is)
    (case z_int => k_is)
    (case z_isinstance => k_is)
    (case z_len => k_is)
    (case z_max => k_is)
    (case z_min => k_is)
    (case z_range => k_is)
    (case z_repr => k_is)
    (case z_set => k_is)
    (case z_sorted => k_is)
    (case z_tuple => k_is)
    (case n_Lot_kinds => k_is)
    (case kt_Lot => k_is)
    (case kc_Lot_NoneType => k_is)
    (case kc_Lot_bool => k_is)
    (case kc_Lot_int => k_is)
    (case kc_Lot_str => k_is)
    (case kc_Lot_tuple => k_is)
    (case kc_Lot_list => k_is)
    (case ki_Lot_bool => k_is)
    (case ki_Lot_int => k_is)
    (case ki_Lot_tuple => k_is)
    (case v_MOST_COIN => k_is)
    (case v_MOST_COINS => k_is)
end S72_
