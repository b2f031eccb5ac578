import PyProof.Rows.All
import Wide.All
import OpenK.AllK
import Wide.FinOn
import HandS.ForMost
import HandS.ForExc
import HandS.CallSlots
import HandS.HeadHook1
import HandS.HeadHook4
import HandS.Lambda
import HandS.Style
import HandS.Wide
import HandS.IsInst
import HandS.RaiseMore
import HandS.Defaults
import PyProof.ReprRoads
import HandS.Zip
import HandS.Words
import HandS.ExcInit
import HandS.HeadHook2
import KE.KExcIs
import HandS.ExcField
import HandS.ExcIs
import HandS.Ends
import HandS.EndBits
import PySem.Challenge.RW_littlewebs_k32_closed_walks_there_and_ba
import KE.KStateDown
import KE.KNestM
import Lean
import HandS.Base
import HandS.Call
import HandS.More
import HandS.WordsExc
import HandS.Head0
import HandS.Head1
import HandS.Head2
import HandS.HeadEnd
import HandS.HeadHook3
import PyProof.FitsInt
import PyProof.ReprLoop
set_option Elab.async false
set_option linter.all false
set_option maxRecDepth 100000
set_option maxHeartbeats 0
/-! M2a: values D by their content, a store of changeable objects, what stands for them in the abstract heap; results -/
namespace M2
open PySem PySem.Spec PyProof.Rows L2

inductive D where
  | non | bl (b : Bool) | int (i : Int) | str (x : Str) | ty (n : String)
  | glo (x : Str)
  | loc (n : Nat)
  | tup (xs : List D) | lst (xs : List D)
  | dic (kvs : List (Key × D)) | dit (kvs : List (List Key × D))
  | ins (C : Str) (fs : List (Str × D))
  /-- a list that is only read: the script -/
  | wls (ns : List Int)
abbrev Env := List (Option D)
/-- a changeable object -/
inductive O where
  | lst (ds : List D) | dic (kvs : List (Key × D)) | dit (kvs : List (List Key × D)) | ins (C : Str) (fs : List (Str × D)) | dead
abbrev Sto := List O

/-- a tuple: frozen, or one of the module's own -/
def TupAt (K : PySem.W.Frag) (F : Hp) (a : Addr) (xs : List V) : Prop :=
  F a = some (.tup xs) ∨ ∃ (o : Obj) (its : Array Value) (n : Nat), K.lookup a = some o ∧ o.cls = .type "tuple" ∧ o.data = .seq its n ∧ its.size ≤ sizeLine ∧ Vals xs its.toList
theorem TupAt.sq {K : PySem.W.Frag} {F : Hp} {a : Addr} {xs : List V} (h : TupAt K F a xs) : SqT K F a xs := h.elim SqT.of .inr
theorem TupAt.mono {K : PySem.W.Frag} {F F' : Hp} {a : Addr} {xs : List V} (e : Same F F') (h : TupAt K F a xs) : TupAt K F' a xs := h.elim (fun h => .inl (e _ _ h)) .inr
section
variable (K : PySem.W.Frag) (as : List Addr) (F : Hp)
mutual
inductive Rep : D → V → Prop
  | non : Rep .non .non
  | bl {b} : Rep (.bl b) (.bl b)
  | int {i} : Rep (.int i) (.int i)
  | str {x} : Rep (.str x) (.str x)
  | ty {n} : Rep (.ty n) (.ty n)
  | glo {x} : Rep (.glo x) (.ref (He.ga K x))
  | loc {n a} : as[n]? = some a → Rep (.loc n) (.ref a)
  | tup {a vs ds} : TupAt K F a vs → Reps ds vs → Rep (.tup ds) (.ref a)
  | lst {a vs ds} : F a = some (.lst vs) → Reps ds vs → Rep (.lst ds) (.ref a)
  | wls {a ns} : SqL K F a (ns.map V.int) → Rep (.wls ns) (.ref a)
  | dic {a w ds} : F a = some (.dK w) → RepK ds w → Rep (.dic ds) (.ref a)
  | dit {a w ds} : F a = some (.dT w) → RepT ds w → Rep (.dit ds) (.ref a)
  | ins {a C dx w fs} : F a = some (.ins (He.ga K C) dx w) → RepF fs w → Rep (.ins C fs) (.ref a)
inductive Reps : List D → List V → Prop
  | nil : Reps [] []
  | cons {d v ds vs} : Rep d v → Reps ds vs → Reps (d :: ds) (v :: vs)
inductive RepK : List (Key × D) → List (Key × V) → Prop
  | nil : RepK [] []
  | cons {k d v ds vs} : Rep d v → RepK ds vs → RepK ((k, d) :: ds) ((k, v) :: vs)
inductive RepT : List (List Key × D) → List (List Key × V) → Prop
  | nil : RepT [] []
  | cons {k d v ds vs} : Rep d v → RepT ds vs → RepT ((k, d) :: ds) ((k, v) :: vs)
inductive RepF : List (Str × D) → List (Str × V) → Prop
  | nil : RepF [] []
  | cons {k d v ds vs} : Rep d v → RepF ds vs → RepF ((k, d) :: ds) ((k, v) :: vs)
end
end

/-- more addresses, more frozen objects -/
structure Ext (as as' : List Addr) (F F' : Hp) : Prop where
  pre : ∀ (n : Nat) (a : Addr), as[n]? = some a → as'[n]? = some a
  sub : Same F F'
theorem Ext.refl {as F} : Ext as as F F := ⟨fun _ _ h => h, fun _ _ h => h⟩
theorem Ext.trans {as as1 as2 F F1 F2} (a : Ext as as1 F F1) (b : Ext as1 as2 F1 F2) : Ext as as2 F F2 := ⟨fun n x h => b.pre n x (a.pre n x h), fun _ _ h => b.sub _ _ (a.sub _ _ h)⟩
theorem Ext.ofSub {as F F'} (h : Same F F') : Ext as as F F' := ⟨fun _ _ h => h, h⟩
theorem same_seqT {K : PySem.W.Frag} {F F' : Hp} {a : Addr} {xs : List V} (e : Same F F') (h : SqT K F a xs) : SqT K F' a xs := by
  rcases h with (h | ⟨o, h⟩) | h
  · exact .inl (.inl (e _ _ h))
  · exact .inl (.inr ⟨o, e _ _ h⟩)
  · exact .inr h
section
variable {K : PySem.W.Frag} {as as' : List Addr} {F F' : Hp}
mutual
theorem Rep.mono (x : Ext as as' F F') : ∀ {d : D} {v : V}, Rep K as F d v → Rep K as' F' d v
  | _, _, .non => .non
  | _, _, .bl => .bl
  | _, _, .int => .int
  | _, _, .str => .str
  | _, _, .ty => .ty
  | _, _, .glo => .glo
  | _, _, .wls h => .wls (x.sub.seq h)
  | _, _, .loc h => .loc (x.pre _ _ h)
  | _, _, .tup h r => .tup (h.mono x.sub) (Reps.mono x r)
  | _, _, .lst h r => .lst (x.sub _ _ h) (Reps.mono x r)
  | _, _, .dic h r => .dic (x.sub _ _ h) (RepK.mono x r)
  | _, _, .dit h r => .dit (x.sub _ _ h) (RepT.mono x r)
  | _, _, .ins h r => .ins (x.sub _ _ h) (RepF.mono x r)
theorem Reps.mono (x : Ext as as' F F') : ∀ {d : List D} {v : List V}, Reps K as F d v → Reps K as' F' d v
  | _, _, .nil => .nil
  | _, _, .cons r t => .cons (Rep.mono x r) (Reps.mono x t)
theorem RepK.mono (x : Ext as as' F F') : ∀ {d : List (Key × D)} {v : List (Key × V)}, RepK K as F d v → RepK K as' F' d v
  | _, _, .nil => .nil
  | _, _, .cons r t => .cons (Rep.mono x r) (RepK.mono x t)
theorem RepT.mono (x : Ext as as' F F') : ∀ {d : List (List Key × D)} {v : List (List Key × V)}, RepT K as F d v → RepT K as' F' d v
  | _, _, .nil => .nil
  | _, _, .cons r t => .cons (Rep.mono x r) (RepT.mono x t)
theorem RepF.mono (x : Ext as as' F F') : ∀ {d : List (Str × D)} {v : List (Str × V)}, RepF K as F d v → RepF K as' F' d v
  | _, _, .nil => .nil
  | _, _, .cons r t => .cons (Rep.mono x r) (RepF.mono x t)
end
theorem Reps.length : ∀ {ds : List D} {vs : List V}, Reps K as F ds vs → ds.length = vs.length
  | _, _, .nil => rfl
  | _, _, .cons _ t => congrArg (· + 1) (Reps.length t)
theorem Reps.get : ∀ {ds : List D} {vs : List V} {i : Nat} {d : D}, Reps K as F ds vs → ds[i]? = some d → ∃ v, vs[i]? = some v ∧ Rep K as F d v
  | _, _, _, _, .nil, e => by simp at e
  | _, _, 0, _, .cons r _, e => by simp at e; subst e; exact ⟨_, rfl, r⟩
  | _, _, i + 1, d, .cons _ t, e => by
    obtain ⟨u, h1, h2⟩ := Reps.get (i := i) (d := d) t (by simpa using e)
    exact ⟨u, by simpa using h1, h2⟩
theorem Reps.getV : ∀ {ds : List D} {vs : List V} {i : Nat} {v : V}, Reps K as F ds vs → vs[i]? = some v → ∃ d, ds[i]? = some d ∧ Rep K as F d v
  | _, _, _, _, .nil, e => by simp at e
  | _, _, 0, _, .cons r _, e => by simp at e; subst e; exact ⟨_, rfl, r⟩
  | _, _, i + 1, d, .cons _ t, e => by
    obtain ⟨u, h1, h2⟩ := Reps.getV (i := i) (v := d) t (by simpa using e)
    exact ⟨u, by simpa using h1, h2⟩
theorem Reps.append : ∀ {a b : List D} {u w : List V}, Reps K as F a u → Reps K as F b w → Reps K as F (a ++ b) (u ++ w)
  | _, _, _, _, .nil, s => s
  | _, _, _, _, .cons r t, s => .cons r (Reps.append t s)
theorem Reps.set {d : D} {v : V} (r : Rep K as F d v) : ∀ {ds : List D} {vs : List V} (i : Nat), Reps K as F ds vs → Reps K as F (ds.set i d) (vs.set i v)
  | _, _, _, .nil => .nil
  | _, _, 0, .cons _ t => .cons r t
  | _, _, i + 1, .cons q t => .cons q (Reps.set r i t)
theorem Reps.eraseIdx : ∀ {ds : List D} {vs : List V} (i : Nat), Reps K as F ds vs → Reps K as F (ds.eraseIdx i) (vs.eraseIdx i)
  | _, _, _, .nil => .nil
  | _, _, 0, .cons _ t => t
  | _, _, i + 1, .cons q t => .cons q (Reps.eraseIdx i t)
theorem Reps.take : ∀ {ds : List D} {vs : List V} (n : Nat), Reps K as F ds vs → Reps K as F (ds.take n) (vs.take n)
  | _, _, 0, _ => .nil
  | _, _, _ + 1, .nil => .nil
  | _, _, n + 1, .cons r t => .cons r (Reps.take n t)
theorem Reps.drop : ∀ {ds : List D} {vs : List V} (n : Nat), Reps K as F ds vs → Reps K as F (ds.drop n) (vs.drop n)
  | _, _, 0, r => r
  | _, _, _ + 1, .nil => .nil
  | _, _, n + 1, .cons _ t => Reps.drop n t
theorem Reps.reverse {ds : List D} {vs : List V} (r : Reps K as F ds vs) : Reps K as F ds.reverse vs.reverse := by
  induction ds generalizing vs with
  | nil => cases r; exact .nil
  | cons d ds ih =>
    cases r with
    | cons r t =>
      rw [List.reverse_cons, List.reverse_cons]
      exact (ih t).append (.cons r .nil)
theorem Reps.dropLast {ds : List D} {vs : List V} (r : Reps K as F ds vs) : Reps K as F ds.dropLast vs.dropLast := by
  rw [List.dropLast_eq_take, List.dropLast_eq_take, ← r.length]
  exact r.take _
theorem Reps.ints {ns : List Int} {vs : List V} (r : Reps K as F (ns.map D.int) vs) : vs = ns.map V.int := by
  induction ns generalizing vs with
  | nil => cases r; rfl
  | cons n ns ih =>
    cases r with
    | cons r t =>
      cases r
      rw [ih t]
      rfl
theorem Reps.of_ints (ns : List Int) : Reps K as F (ns.map D.int) (ns.map V.int) := by
  induction ns with
  | nil => exact .nil
  | cons n ns ih => exact .cons .int ih
end

/-- what stands at the address of a changeable object -/
def OAt (K : PySem.W.Frag) (as : List Addr) (F H : Hp) : O → Addr → Prop
  | .lst ds, a => F a = none ∧ ∃ vs, H a = some (.lst vs) ∧ Reps K as F ds vs
  | .dic ds, a => F a = none ∧ ∃ w, H a = some (.dK w) ∧ RepK K as F ds w
  | .dit ds, a => F a = none ∧ ∃ w, H a = some (.dT w) ∧ RepT K as F ds w
  | .ins C fs, a => F a = none ∧ ∃ dx w, H a = some (.ins (He.ga K C) dx w) ∧ RepF K as F fs w
  | .dead, _ => True
/-- the defs that make lambdas -/
def lamDefs : List Str := ["_law_few_right", "law"]
def tabT (K : PySem.W.Frag) (x : Str) : Addr := (He.cT K (x, none)).2
/-- what may be written: not a table, not a code object -/
def ObjK : HO → Prop
  | .lst _ => True
  | .dK _ => True
  | .dT _ => True
  | .ins _ _ _ => True
  | _ => False
theorem ObjK.ntb {o : HO} (h : ObjK o) : ∀ ps, o ≠ .tbl ps := fun ps e => by subst e; exact h
theorem tab_new {H : Hp} {P p : Addr} {q : Str} {o : HO} (t : LamX.TabS H P q) (n : H p = none) : LamX.TabS (upd H p o) P q := t.ext fun b u h => by rw [upd_ne (ne_of_none h n)]; exact h
theorem tab_write {H : Hp} {P a : Addr} {q : Str} {o u : HO} (t : LamX.TabS H P q) (h : H a = some o) (k : ObjK o) : LamX.TabS (upd H a u) P q := by
  obtain ⟨ps, h1, h2, h3⟩ := t
  have e1 : P ≠ a := fun e => by rw [e, h] at h1; cases h1; exact k
  refine ⟨ps, by rw [upd_ne e1]; exact h1, h2, fun pos cv hc => ?_⟩
  obtain ⟨c, e2, e3⟩ := h3 pos cv hc
  have e4 : c ≠ a := fun e => by rw [e, h] at e3; cases e3; exact k
  exact ⟨c, e2, by rw [upd_ne e4]; exact e3⟩
/-- the state: G what others want kept, F what is frozen, S the changeable objects, at the addresses as -/
structure St0 (K : PySem.W.Frag) (G : Hp) (as : List Addr) (F H : Hp) (S : Sto) : Prop where
  sub : Same F H
  keep : Same G H
  dis : ∀ a o, G a = some o → F a = none ∧ a ∉ as
  ntb : ∀ a ps, F a ≠ some (.tbl ps)
  len : as.length = S.length
  locs : ∀ (n : Nat) (o : O) (a : Addr), S[n]? = some o → as[n]? = some a → OAt K as F H o a
  nod : as.Nodup
  occ : ∀ a ∈ as, ∃ o, H a = some o ∧ ∀ ps, o ≠ .tbl ps
  gtb : ∀ a ps, G a ≠ some (.tbl ps)
  tabs : ∀ x ∈ lamDefs, LamX.TabS H (tabT K x) (x ++ ".<locals>." ++ "<lambda>")
structure Slots (K : PySem.W.Frag) (as : List Addr) (F : Hp) (ρ : Env) (σ : L2.St) : Prop where
  len : ρ.length = σ.length
  at_ : ∀ (i : Nat) (d : D), ρ[i]? = some (some d) → ∃ v, σ[i]? = some (some v) ∧ Rep K as F d v
section
variable {K : PySem.W.Frag} {G : Hp} {as as' : List Addr} {F F' H H' : Hp} {S : Sto} {ρ : Env} {σ : L2.St}
theorem Slots.mono (s : Slots K as F ρ σ) (x : Ext as as' F F') : Slots K as' F' ρ σ := ⟨s.len, fun i d e => let ⟨v, h, r⟩ := s.at_ i d e; ⟨v, h, r.mono x⟩⟩
theorem Slots.set (s : Slots K as F ρ σ) (i : Nat) {d : D} {v : V} (r : Rep K as F d v) : Slots K as F (ρ.set i (some d)) (σ.set i (some v)) where
  len := by simp [s.len]
  at_ := fun j e h => by
    by_cases hj : i = j
    · subst hj
      by_cases hl : i < ρ.length
      · rw [List.getElem?_set_self hl] at h
        cases h
        exact ⟨v, by rw [List.getElem?_set_self (by rw [← s.len]; exact hl)], r⟩
      · rw [List.getElem?_eq_none (by simpa using hl)] at h
        cases h
    · rw [List.getElem?_set_ne hj] at h
      rw [List.getElem?_set_ne hj]
      exact s.at_ j e h
theorem Slots.unset (s : Slots K as F ρ σ) (i : Nat) (x : Option V) : Slots K as F (ρ.set i none) (σ.set i x) where
  len := by simp [s.len]
  at_ := fun j e h => by
    by_cases hj : i = j
    · subst hj
      by_cases hl : i < ρ.length
      · rw [List.getElem?_set_self hl] at h
        cases h
      · rw [List.getElem?_eq_none (by simpa using hl)] at h
        cases h
    · rw [List.getElem?_set_ne hj] at h
      rw [List.getElem?_set_ne hj]
      exact s.at_ j e h
def wipeE (ρ : Env) : List Nat → Env
  | [] => ρ
  | v :: vs => (wipeE ρ vs).set v none
theorem Slots.wipe (s : Slots K as F ρ σ) : ∀ vs : List Nat, Slots K as F (wipeE ρ vs) (L2.wipe σ vs)
  | [] => s
  | v :: vs => (Slots.wipe s vs).unset v none
theorem OAt.mono {o : O} {a : Addr} (h : OAt K as F H o a) (x : Ext as as' F F') (hF : F a = none → F' a = none) (hH : H' a = H a) : OAt K as' F' H' o a := by
  cases o with
  | lst ds => obtain ⟨h1, vs, h2, r⟩ := h; exact ⟨hF h1, vs, hH.trans h2, r.mono x⟩
  | dic ds => obtain ⟨h1, vs, h2, r⟩ := h; exact ⟨hF h1, vs, hH.trans h2, r.mono x⟩
  | dit ds => obtain ⟨h1, vs, h2, r⟩ := h; exact ⟨hF h1, vs, hH.trans h2, r.mono x⟩
  | ins C fs => obtain ⟨h1, dx, w, h2, r⟩ := h; exact ⟨hF h1, dx, w, hH.trans h2, r.mono x⟩
  | dead => trivial
theorem same_upd {H : Hp} {p : Addr} {o : HO} (n : H p = none) : Same H (upd H p o) := fun a u h => by rw [upd_ne (ne_of_none h n)]; exact h
theorem St0.fNone (s : St0 K G as F H S) {p : Addr} (n : H p = none) : F p = none := s.sub.free n
theorem St0.gNone (s : St0 K G as F H S) {p : Addr} (n : H p = none) : G p = none := s.keep.free n
theorem St0.asNe (s : St0 K G as F H S) {p : Addr} (n : H p = none) : p ∉ as := fun h => by obtain ⟨o, e, _⟩ := s.occ p h; rw [n] at e; cases e
/-- a new frozen object -/
theorem St0.new (s : St0 K G as F H S) {p : Addr} {o : HO} (n : H p = none) (ht : ∀ ps, o ≠ .tbl ps) : St0 K G as (upd F p o) (upd H p o) S ∧ Ext as as F (upd F p o) := by
  have x : Ext as as F (upd F p o) := .ofSub (same_upd (s.fNone n))
  refine ⟨⟨fun a u h => ?_, fun a u h => ?_, fun a u h => ?_, fun a ps h => ?_, s.len, fun k u a h1 h2 => ?_, s.nod, fun a h => ?_, s.gtb, fun y hy => tab_new (s.tabs y hy) n⟩, x⟩
  · by_cases ha : a = p
    · subst ha; rw [upd_same] at h ⊢; exact h
    · rw [upd_ne ha] at h ⊢; exact s.sub _ _ h
  · rw [upd_ne (ne_of_none (s.keep _ _ h) n)]; exact s.keep _ _ h
  · have h1 := s.dis a u h
    rw [upd_ne (ne_of_none (s.keep _ _ h) n)]
    exact h1
  · by_cases ha : a = p
    · subst ha; rw [upd_same] at h; exact ht ps (Option.some.inj h)
    · rw [upd_ne ha] at h; exact s.ntb _ _ h
  · have ha : a ≠ p := fun z => s.asNe n (z ▸ List.mem_of_getElem? h2)
    exact (s.locs k u a h1 h2).mono x (fun z => by rw [upd_ne ha]; exact z) (upd_ne ha)
  · have ha : a ≠ p := fun z => s.asNe n (z ▸ h)
    rw [upd_ne ha]; exact s.occ a h
/-- a new object at large (not ours) -/
theorem St0.newOut (s : St0 K G as F H S) {p : Addr} {o : HO} (n : H p = none) : St0 K G as F (upd H p o) S := by
  refine ⟨fun a u h => ?_, fun a u h => ?_, s.dis, s.ntb, s.len, fun k u a h1 h2 => ?_, s.nod, fun a h => ?_, s.gtb, fun y hy => tab_new (s.tabs y hy) n⟩
  · rw [upd_ne (ne_of_none (s.sub _ _ h) n)]; exact s.sub _ _ h
  · rw [upd_ne (ne_of_none (s.keep _ _ h) n)]; exact s.keep _ _ h
  · have ha : a ≠ p := fun z => s.asNe n (z ▸ List.mem_of_getElem? h2)
    exact (s.locs k u a h1 h2).mono Ext.refl (fun z => z) (upd_ne ha)
  · have ha : a ≠ p := fun z => s.asNe n (z ▸ h)
    rw [upd_ne ha]; exact s.occ a h
/-- a new changeable object -/
theorem St0.newLoc (s : St0 K G as F H S) {p : Addr} {o : HO} {u : O} (n : H p = none) (ht : ∀ ps, o ≠ .tbl ps) (hu : ∀ as' H', (Ext as as' F F) → F p = none → H' p = some o → OAt K as' F H' u p) :
    St0 K G (as ++ [p]) F (upd H p o) (S ++ [u]) ∧ Ext as (as ++ [p]) F F := by
  have x : Ext as (as ++ [p]) F F := ⟨fun k a h => by
    rw [List.getElem?_append_left (List.getElem?_eq_some_iff.mp h).1]; exact h, fun _ _ h => h⟩
  refine ⟨⟨fun a u h => ?_, fun a u h => ?_, fun a u h => ?_, s.ntb, by simp [s.len], fun k w a h1 h2 => ?_, ?_, fun a h => ?_, s.gtb, fun y hy => tab_new (s.tabs y hy) n⟩, x⟩
  · rw [upd_ne (ne_of_none (s.sub _ _ h) n)]; exact s.sub _ _ h
  · rw [upd_ne (ne_of_none (s.keep _ _ h) n)]; exact s.keep _ _ h
  · obtain ⟨h1, h2⟩ := s.dis a u h
    refine ⟨h1, fun z => ?_⟩
    rcases List.mem_append.mp z with z | z
    · exact h2 z
    · exact ne_of_none (s.keep _ _ h) n (by simpa using z)
  · by_cases hk : k < as.length
    · rw [List.getElem?_append_left hk] at h2
      rw [List.getElem?_append_left (by rw [← s.len]; exact hk)] at h1
      have ha : a ≠ p := fun z => s.asNe n (z ▸ List.mem_of_getElem? h2)
      exact (s.locs k w a h1 h2).mono x (fun z => z) (upd_ne ha)
    · rw [List.getElem?_append_right (by omega)] at h2
      rw [List.getElem?_append_right (by rw [← s.len]; omega)] at h1
      rw [← s.len] at h1
      by_cases hk0 : k - as.length = 0
      · rw [hk0] at h1 h2
        simp at h1 h2
        subst h1 h2
        exact hu _ _ x (s.fNone n) upd_same
      · have : ([p] : List Addr)[k - as.length]? = none := by
          rw [List.getElem?_eq_none]; simp; omega
        rw [this] at h2; cases h2
  · rw [List.nodup_append]
    exact ⟨s.nod, by simp, fun a ha b hb => by
      have e : b = p := by simpa using hb
      subst e
      exact fun z => s.asNe n (z ▸ ha)⟩
  · rcases List.mem_append.mp h with z | z
    · have ha : a ≠ p := fun e => s.asNe n (e ▸ z)
      rw [upd_ne ha]; exact s.occ a z
    · have e : a = p := by simpa using z
      rw [e, upd_same]; exact ⟨o, rfl, ht⟩
theorem nodup_get {as : List Addr} (h : as.Nodup) {i j : Nat} {a : Addr} (h1 : as[i]? = some a) (h2 : as[j]? = some a) : i = j := by
  obtain ⟨l1, e1⟩ := List.getElem?_eq_some_iff.mp h1
  obtain ⟨l2, e2⟩ := List.getElem?_eq_some_iff.mp h2
  exact (List.getElem_inj h).mp (e1.trans e2.symm)
/-- a changeable object is written -/
theorem St0.write (s : St0 K G as F H S) {n : Nat} {a : Addr} {o o0 : HO} {u : O} (ha : as[n]? = some a) (hF : F a = none) (hH : H a = some o0) (hk : ObjK o0) (hko : ∀ ps, o ≠ .tbl ps) (hu : ∀ H', H' a = some o → OAt K as F H' u a) :
    St0 K G as F (upd H a o) (S.set n u) := by
  have ma := List.mem_of_getElem? ha
  refine ⟨fun b w h => ?_, fun b w h => ?_, s.dis, s.ntb, by simp [s.len], fun k w b h1 h2 => ?_, s.nod, fun b h => ?_, s.gtb, fun y hy => tab_write (s.tabs y hy) hH hk⟩
  · have hb : b ≠ a := fun z => by rw [z, hF] at h; cases h
    rw [upd_ne hb]; exact s.sub _ _ h
  · have hb : b ≠ a := fun z => (s.dis b w h).2 (z ▸ ma)
    rw [upd_ne hb]; exact s.keep _ _ h
  · by_cases hk : n = k
    · subst hk
      rw [ha] at h2; cases h2
      have hl : n < S.length := by rw [← s.len]; exact (List.getElem?_eq_some_iff.mp ha).1
      rw [List.getElem?_set_self hl] at h1; cases h1
      exact hu _ upd_same
    · rw [List.getElem?_set_ne hk] at h1
      have hb : b ≠ a := fun z => hk (nodup_get s.nod ha (z ▸ h2))
      exact (s.locs k w b h1 h2).mono Ext.refl (fun z => z) (upd_ne hb)
  · by_cases hb : b = a
    · rw [hb, upd_same]; exact ⟨o, rfl, hko⟩
    · rw [upd_ne hb]; exact s.occ b h
/-- a changeable object is frozen -/
theorem St0.freeze (s : St0 K G as F H S) {n : Nat} {a : Addr} {o : HO} (ha : as[n]? = some a) (hF : F a = none) (hH : H a = some o) (ht : ∀ ps, o ≠ .tbl ps) :
    St0 K G as (upd F a o) H (S.set n .dead) ∧ Ext as as F (upd F a o) := by
  have ma := List.mem_of_getElem? ha
  have x : Ext as as F (upd F a o) := .ofSub (same_upd hF)
  refine ⟨⟨fun b w h => ?_, s.keep, fun b w h => ?_, fun b ps h => ?_, by simp [s.len], fun k w b h1 h2 => ?_, s.nod, s.occ, s.gtb, s.tabs⟩, x⟩
  · by_cases hb : b = a
    · subst hb; rw [upd_same] at h; rw [hH]; exact h
    · rw [upd_ne hb] at h; exact s.sub _ _ h
  · have hb : b ≠ a := fun z => (s.dis b w h).2 (z ▸ ma)
    rw [upd_ne hb]; exact s.dis b w h
  · by_cases hb : b = a
    · subst hb; rw [upd_same] at h; exact ht ps (Option.some.inj h)
    · rw [upd_ne hb] at h; exact s.ntb _ _ h
  · by_cases hk : n = k
    · subst hk
      have hl : n < S.length := by rw [← s.len]; exact (List.getElem?_eq_some_iff.mp ha).1
      rw [List.getElem?_set_self hl] at h1; cases h1
      trivial
    · rw [List.getElem?_set_ne hk] at h1
      have hb : b ≠ a := fun z => hk (nodup_get s.nod ha (z ▸ h2))
      exact (s.locs k w b h1 h2).mono x (fun z => by rw [upd_ne hb]; exact z) rfl
/-- an object of another's, kept from now on -/
theorem St0.frame (s : St0 K G as F H S) {p : Addr} {o : HO} (n : H p = none) (ht : ∀ ps, o ≠ .tbl ps) : St0 K (upd G p o) as F (upd H p o) S := by
  have t := s.newOut (o := o) n
  refine ⟨t.sub, fun a u h => ?_, fun a u h => ?_, t.ntb, t.len, t.locs, t.nod, t.occ, fun a ps h => ?_, t.tabs⟩
  · by_cases ha : a = p
    · subst ha; rw [upd_same] at h ⊢; exact h
    · rw [upd_ne ha] at h ⊢; exact s.keep _ _ h
  · by_cases ha : a = p
    · subst ha; exact ⟨s.fNone n, s.asNe n⟩
    · rw [upd_ne ha] at h; exact s.dis a u h
  · by_cases ha : a = p
    · subst ha; rw [upd_same] at h; exact ht ps (Option.some.inj h)
    · rw [upd_ne ha] at h; exact s.gtb a ps h
theorem St0.reframe {p : Addr} {o u : HO} (s : St0 K (upd G p o) as F H S) (hk : ObjK o) (hu : ∀ ps, u ≠ .tbl ps) : St0 K (upd G p u) as F (upd H p u) S := by
  obtain ⟨d1, d2⟩ := s.dis p o upd_same
  refine ⟨fun a w h => ?_, fun a w h => ?_, fun a w h => ?_, s.ntb, s.len, fun k w a h1 h2 => ?_, s.nod, fun a h => ?_, fun a ps h => ?_, fun y hy => tab_write (s.tabs y hy) (s.keep _ _ upd_same) hk⟩
  · have ha : a ≠ p := fun z => by rw [z, d1] at h; cases h
    rw [upd_ne ha]; exact s.sub _ _ h
  · by_cases ha : a = p
    · subst ha; rw [upd_same] at h ⊢; exact h
    · rw [upd_ne ha] at h ⊢
      exact s.keep a w (by rw [upd_ne ha]; exact h)
  · by_cases ha : a = p
    · subst ha; exact ⟨d1, d2⟩
    · rw [upd_ne ha] at h; exact s.dis a w (by rw [upd_ne ha]; exact h)
  · have ha : a ≠ p := fun z => d2 (z ▸ List.mem_of_getElem? h2)
    exact (s.locs k w a h1 h2).mono Ext.refl (fun z => z) (upd_ne ha)
  · have ha : a ≠ p := fun z => d2 (z ▸ h)
    rw [upd_ne ha]; exact s.occ a h
  · by_cases ha : a = p
    · subst ha; rw [upd_same] at h; exact hu ps (Option.some.inj h)
    · rw [upd_ne ha] at h; exact s.gtb a ps (by rw [upd_ne ha]; exact h)
/-- the kept object becomes frozen -/
theorem St0.unframe {p : Addr} {o : HO} (s : St0 K (upd G p o) as F H S) (hG : G p = none) (ht : ∀ ps, o ≠ .tbl ps) : St0 K G as (upd F p o) H S ∧ Ext as as F (upd F p o) := by
  obtain ⟨d1, d2⟩ := s.dis p o upd_same
  have x : Ext as as F (upd F p o) := .ofSub (same_upd d1)
  refine ⟨⟨fun a w h => ?_, fun a w h => ?_, fun a w h => ?_, fun a ps h => ?_, s.len, fun k w a h1 h2 => ?_, s.nod, s.occ, fun a ps h => s.gtb a ps (by rw [upd_ne (ne_of_none h hG)]; exact h), s.tabs⟩, x⟩
  · by_cases ha : a = p
    · subst ha; rw [upd_same] at h; cases h; exact s.keep _ _ upd_same
    · rw [upd_ne ha] at h; exact s.sub _ _ h
  · have ha : a ≠ p := ne_of_none h hG
    exact s.keep a w (by rw [upd_ne ha]; exact h)
  · have ha : a ≠ p := ne_of_none h hG
    rw [upd_ne ha]
    exact s.dis a w (by rw [upd_ne ha]; exact h)
  · by_cases ha : a = p
    · subst ha; rw [upd_same] at h; exact ht ps (Option.some.inj h)
    · rw [upd_ne ha] at h; exact s.ntb _ _ h
  · have ha : a ≠ p := fun z => d2 (z ▸ List.mem_of_getElem? h2)
    exact (s.locs k w a h1 h2).mono x (fun z => by rw [upd_ne ha]; exact z) rfl
/-- the kept object becomes changeable -/
theorem St0.unframeLoc {p : Addr} {o : HO} {u : O} (s : St0 K (upd G p o) as F H S) (hG : G p = none) (hu : ∀ as', Ext as as' F F → OAt K as' F H u p) :
    St0 K G (as ++ [p]) F H (S ++ [u]) ∧ Ext as (as ++ [p]) F F := by
  obtain ⟨d1, d2⟩ := s.dis p o upd_same
  have x : Ext as (as ++ [p]) F F := ⟨fun k a h => by
    rw [List.getElem?_append_left (List.getElem?_eq_some_iff.mp h).1]; exact h, fun _ _ h => h⟩
  refine ⟨⟨s.sub, fun a w h => ?_, fun a w h => ?_, s.ntb, by simp [s.len], fun k w a h1 h2 => ?_, ?_, fun a h => ?_, fun a ps h => s.gtb a ps (by rw [upd_ne (ne_of_none h hG)]; exact h), s.tabs⟩, x⟩
  · have ha : a ≠ p := ne_of_none h hG
    exact s.keep a w (by rw [upd_ne ha]; exact h)
  · have ha : a ≠ p := ne_of_none h hG
    obtain ⟨e1, e2⟩ := s.dis a w (by rw [upd_ne ha]; exact h)
    refine ⟨e1, fun z => ?_⟩
    rcases List.mem_append.mp z with z | z
    · exact e2 z
    · exact ha (by simpa using z)
  · by_cases hk : k < as.length
    · rw [List.getElem?_append_left hk] at h2
      rw [List.getElem?_append_left (by rw [← s.len]; exact hk)] at h1
      exact (s.locs k w a h1 h2).mono x (fun z => z) rfl
    · rw [List.getElem?_append_right (by omega)] at h2
      rw [List.getElem?_append_right (by rw [← s.len]; omega)] at h1
      rw [← s.len] at h1
      by_cases hk0 : k - as.length = 0
      · rw [hk0] at h1 h2
        simp at h1 h2
        subst h1 h2
        exact hu _ x
      · have : ([p] : List Addr)[k - as.length]? = none := by
          rw [List.getElem?_eq_none]; simp; omega
        rw [this] at h2; cases h2
  · rw [List.nodup_append]
    exact ⟨s.nod, by simp, fun a ha b hb => by
      have e : b = p := by simpa using hb
      subst e
      exact fun z => d2 (z ▸ ha)⟩
  · rcases List.mem_append.mp h with z | z
    · exact s.occ a z
    · have e : a = p := by simpa using z
      rw [e]; exact ⟨o, s.keep _ _ upd_same, fun ps z => s.gtb p ps (by rw [upd_same, z])⟩
end

/-! ### results -/
structure Xc where
  cls : Str
  fs : List (Str × D)
/-- what an expression comes to: a value, an error, or nothing that is told here -/
inductive Res (α : Type) where
  | ok (a : α) (S : Sto) | err (x : Xc) (S : Sto) | stuck
abbrev M (α : Type) := Sto → Res α
def mret {α : Type} (a : α) : M α := fun S => .ok a S
def mstk {α : Type} : M α := fun _ => .stuck
def mbind {α β : Type} (m : M α) (g : α → M β) : M β := fun S => match m S with
  | .ok a S' => g a S'
  | .err x S' => .err x S'
  | .stuck => .stuck
def mopt {α : Type} : Option α → M α
  | some a => mret a
  | none => mstk
def XRep (K : PySem.W.Frag) (as : List Addr) (F H : Hp) (x : Xc) (c : Value) (dd : Option Addr) : Prop :=
  c = .ref (He.ga K x.cls) ∧ ∃ d w, dd = some d ∧ H d = some (.xd w) ∧ RepF K as F x.fs w
def fin {α : Type} (K : PySem.W.Frag) (G : Hp) (as : List Addr) (F : Hp) (r : Res α) (ok : α → List Addr → Hp → Hp → Sto → Prop) (er : Xc → List Addr → Hp → Hp → Sto → Prop) : Prop :=
  match r with
  | .ok a S' => ∀ as' F' H', Ext as as' F F' → St0 K G as' F' H' S' → ok a as' F' H' S'
  | .err x S' => ∀ as' F' H', Ext as as' F F' → St0 K G as' F' H' S' → er x as' F' H' S'
  | .stuck => False
section
variable {K : PySem.W.Frag} {G : Hp} {as as' : List Addr} {F F' H H' : Hp} {S : Sto} {ρ : Env} {σ : L2.St}
theorem fin.imp {α : Type} {r : Res α} {ok ok' : α → List Addr → Hp → Hp → Sto → Prop} {er er' : Xc → List Addr → Hp → Hp → Sto → Prop} (h : fin K G as F r ok er)
    (h1 : ∀ a as' F' H' S', Ext as as' F F' → St0 K G as' F' H' S' → ok a as' F' H' S' → ok' a as' F' H' S') (h2 : ∀ x as' F' H' S', Ext as as' F F' → St0 K G as' F' H' S' → er x as' F' H' S' → er' x as' F' H' S') : fin K G as F r ok' er' := by
  cases r with
  | ok a S' => exact fun as' F' H' x s => h1 _ _ _ _ _ x s (h as' F' H' x s)
  | err e S' => exact fun as' F' H' x s => h2 _ _ _ _ _ x s (h as' F' H' x s)
  | stuck => exact h
theorem fin.bind {α β : Type} {m : M α} {g : α → M β} {ok : β → List Addr → Hp → Hp → Sto → Prop} {er : Xc → List Addr → Hp → Hp → Sto → Prop} (h : fin K G as F (mbind m g S) ok er) :
    fin K G as F (m S) (fun a as' F' H' S' => fin K G as' F' (g a S') ok er) er := by
  unfold mbind at h
  cases e : m S with
  | ok a S' =>
    rw [e] at h
    intro as1 F1 H1 x1 s1
    have h : fin K G as F (g a S') ok er := h
    cases e2 : g a S' with
    | ok b S2 => rw [e2] at h; exact fun as2 F2 H2 x2 s2 => h as2 F2 H2 (x1.trans x2) s2
    | err b S2 => rw [e2] at h; exact fun as2 F2 H2 x2 s2 => h as2 F2 H2 (x1.trans x2) s2
    | stuck => rw [e2] at h; exact h
  | err x S' => rw [e] at h; exact h
  | stuck => rw [e] at h; exact h
theorem fin.mono {α : Type} {r : Res α} {ok : α → List Addr → Hp → Hp → Sto → Prop} {er : Xc → List Addr → Hp → Hp → Sto → Prop} (h : fin K G as F r ok er) (x : Ext as as' F F') : fin K G as' F' r ok er := by
  cases r with
  | ok a S' => exact fun as2 F2 H2 x2 s2 => h as2 F2 H2 (x.trans x2) s2
  | err e S' => exact fun as2 F2 H2 x2 s2 => h as2 F2 H2 (x.trans x2) s2
  | stuck => exact h
theorem fin.ret {α : Type} {a : α} {ok : α → List Addr → Hp → Hp → Sto → Prop} {er : Xc → List Addr → Hp → Hp → Sto → Prop} (h : fin K G as F (mret a S) ok er) (s : St0 K G as F H S) : ok a as F H S := h as F H Ext.refl s
theorem fin.opt {α : Type} {o : Option α} {ok : α → List Addr → Hp → Hp → Sto → Prop} {er : Xc → List Addr → Hp → Hp → Sto → Prop} (h : fin K G as F (mopt o S) ok er) :
    ∃ a, o = some a ∧ ∀ as' F' H', Ext as as' F F' → St0 K G as' F' H' S → ok a as' F' H' S := by
  cases o with
  | none => exact h.elim
  | some a => exact ⟨a, rfl, h⟩
end
end M2

/-! M2b: judgements whose meaning is a mirror; names, operators, tests, subscripts, built-ins, displays -/
namespace M2
open PySem PySem.Spec PyProof.Rows L2

abbrev XW := L2.St → XK
def eok (K : PySem.W.Frag) (Q : VK) : D → List Addr → Hp → Hp → Sto → Prop := fun d as' F' H' _ => ∀ v, Rep K as' F' d v → Q v H'
def eoks (K : PySem.W.Frag) (Q : List V → Hp → Prop) : List D → List Addr → Hp → Hp → Sto → Prop := fun d as' F' H' _ => ∀ v, Reps K as' F' d v → Q v H'
def eokb (Q : Bool → Hp → Prop) : Bool → List Addr → Hp → Hp → Sto → Prop := fun b _ _ H' _ => Q b H'
def eer (K : PySem.W.Frag) (EW : XW) (σ : L2.St) : Xc → List Addr → Hp → Hp → Sto → Prop := fun x as' F' H' _ => ∀ c dd, XRep K as' F' H' x c dd → EW σ c dd H'
/-- a new list that nobody else holds -/
def eokf (K : PySem.W.Frag) (G : Hp) (Q : VK) : List D → List Addr → Hp → Hp → Sto → Prop := fun ds as' F' _ S' => ∀ H2 p vs, St0 K (upd G p (.lst vs)) as' F' H2 S' → G p = none → Reps K as' F' ds vs → Q (.ref p) H2
def rdE (K : PySem.W.Frag) (EW : XW) (f : Env → M D) : TE := fun σ H Q => ∃ G as F S ρ, St0 K G as F H S ∧ Slots K as F ρ σ ∧ fin K G as F (f ρ S) (eok K Q) (eer K EW σ)
def rdA (K : PySem.W.Frag) (EW : XW) (f : Env → M (List D)) : TA := fun σ H Q => ∃ G as F S ρ, St0 K G as F H S ∧ Slots K as F ρ σ ∧ fin K G as F (f ρ S) (eoks K Q) (eer K EW σ)
def rdT (K : PySem.W.Frag) (EW : XW) (f : Env → M Bool) : TT := fun σ H Q => ∃ G as F S ρ, St0 K G as F H S ∧ Slots K as F ρ σ ∧ fin K G as F (f ρ S) (eokb Q) (eer K EW σ)
def rdF (K : PySem.W.Frag) (EW : XW) (f : Env → M (List D)) : TE := fun σ H Q => ∃ G as F S ρ, St0 K G as F H S ∧ Slots K as F ρ σ ∧ fin K G as F (f ρ S) (eokf K G Q) (eer K EW σ)
/-- the judgements -/
abbrev PP (X : Cx) (EW : XW) (e : Expr) (f : Env → M D) : Prop := PE X e (rdE X.K EW f)
abbrev PQ (X : Cx) (EW : XW) (es : List Expr) (f : Env → M (List D)) : Prop := PA X es (rdA X.K EW f)
abbrev PB (X : Cx) (EW : XW) (e : Expr) (f : Env → M Bool) : Prop := PT X e (rdT X.K EW f)
abbrev PBW (X : Cx) (EW : XW) (e : Expr) (f : Env → M Bool) : Prop := PW X e (rdT X.K EW f)
abbrev PF (X : Cx) (EW : XW) (e : Expr) (f : Env → M (List D)) : Prop := PE X e (rdF X.K EW f)

theorem pe_weak {X : Cx} {e : Expr} {t t' : TE} (h : PE X e t) (w : ∀ σ H Q, t' σ H Q → t σ H Q) : PE X e t' := ⟨fun pins s σ H Q I q => h.run pins s σ H Q I (w σ H Q q)⟩
theorem pt_weak {X : Cx} {e : Expr} {t t' : TT} (h : PT X e t) (w : ∀ σ H Q, t' σ H Q → t σ H Q) : PT X e t' := ⟨fun pins s σ H Q I q => h.run pins s σ H Q I (w σ H Q q)⟩
theorem pw_weak {X : Cx} {e : Expr} {t t' : TT} (h : PW X e t) (w : ∀ σ H Q, t' σ H Q → t σ H Q) : PW X e t' := ⟨fun wh pins s σ H Q I q => h.run wh pins s σ H Q I (w σ H Q q)⟩
theorem pa_weak {X : Cx} {e : List Expr} {t t' : TA} (h : PA X e t) (w : ∀ σ H Q, t' σ H Q → t σ H Q) : PA X e t' := ⟨fun pos pins s σ H Q I q => h.run pos pins s σ H Q I (w σ H Q q)⟩
theorem pe_or {X : Cx} {e : Expr} {t t' : TE} (h : PE X e t) (h' : PE X e t') : PE X e (fun σ H Q => t σ H Q ∨ t' σ H Q) := ⟨fun pins s σ H Q I q => q.elim (h.run pins s σ H Q I) (h'.run pins s σ H Q I)⟩

/-- what stands behind the first of several steps -/
def Aft (K : PySem.W.Frag) (σ : L2.St) {α β : Type} (R : List Addr → Hp → α → β → Prop) (k : Env → α → M γ) (ok : Hp → γ → List Addr → Hp → Hp → Sto → Prop) (er : Xc → List Addr → Hp → Hp → Sto → Prop) (x : β) (H1 : Hp) : Prop :=
  ∃ G as F S ρ a, St0 K G as F H1 S ∧ Slots K as F ρ σ ∧ R as F a x ∧ fin K G as F (k ρ a S) (ok G) er
section
variable {K : PySem.W.Frag} {EW : XW} {σ : L2.St} {H : Hp}
theorem rd_one {α : Type} {f : Env → M D} {k : Env → D → M α} {ok : Hp → α → List Addr → Hp → Hp → Sto → Prop} (h : ∃ G as F S ρ, St0 K G as F H S ∧ Slots K as F ρ σ ∧ fin K G as F (mbind (f ρ) (k ρ) S) (ok G) (eer K EW σ)) :
    rdE K EW f σ H (Aft K σ (fun as F => Rep K as F) k ok (eer K EW σ)) := by
  obtain ⟨G, as, F, S, ρ, st, sl, q⟩ := h
  exact ⟨G, as, F, S, ρ, st, sl, q.bind.imp (fun a as' F' H' S' x s h v r => ⟨G, as', F', S', ρ, a, s, sl.mono x, r, h⟩) fun _ _ _ _ _ _ _ h => h⟩
theorem rd_oneB {α : Type} {f : Env → M Bool} {k : Env → Bool → M α} {ok : Hp → α → List Addr → Hp → Hp → Sto → Prop} (h : ∃ G as F S ρ, St0 K G as F H S ∧ Slots K as F ρ σ ∧ fin K G as F (mbind (f ρ) (k ρ) S) (ok G) (eer K EW σ)) :
    rdT K EW f σ H (Aft K σ (fun _ _ a b => a = b) k ok (eer K EW σ)) := by
  obtain ⟨G, as, F, S, ρ, st, sl, q⟩ := h
  exact ⟨G, as, F, S, ρ, st, sl, q.bind.imp (fun a as' F' H' S' x s h => ⟨G, as', F', S', ρ, a, s, sl.mono x, rfl, h⟩) fun _ _ _ _ _ _ _ h => h⟩
theorem rd_oneA {α : Type} {f : Env → M (List D)} {k : Env → List D → M α} {ok : Hp → α → List Addr → Hp → Hp → Sto → Prop} (h : ∃ G as F S ρ, St0 K G as F H S ∧ Slots K as F ρ σ ∧ fin K G as F (mbind (f ρ) (k ρ) S) (ok G) (eer K EW σ)) :
    rdA K EW f σ H (Aft K σ (fun as F => Reps K as F) k ok (eer K EW σ)) := by
  obtain ⟨G, as, F, S, ρ, st, sl, q⟩ := h
  exact ⟨G, as, F, S, ρ, st, sl, q.bind.imp (fun a as' F' H' S' x s h v r => ⟨G, as', F', S', ρ, a, s, sl.mono x, r, h⟩) fun _ _ _ _ _ _ _ h => h⟩
/-- two in a row -/
theorem rd_two {α : Type} {f g : Env → M D} {k : Env → D → D → M α} {ok : Hp → α → List Addr → Hp → Hp → Sto → Prop} (h : ∃ G as F S ρ, St0 K G as F H S ∧ Slots K as F ρ σ ∧ fin K G as F (mbind (f ρ) (fun a => mbind (g ρ) (k ρ a)) S) (ok G) (eer K EW σ)) :
    rdE K EW f σ H fun x H1 => rdE K EW g σ H1 fun y H2 => ∃ G as F S ρ a b, St0 K G as F H2 S ∧ Slots K as F ρ σ ∧ Rep K as F a x ∧ Rep K as F b y ∧ fin K G as F (k ρ a b S) (ok G) (eer K EW σ) := by
  obtain ⟨G, as, F, S, ρ, st, sl, q⟩ := h
  refine ⟨G, as, F, S, ρ, st, sl, q.bind.imp (fun a as1 F1 H1 S1 x1 s1 h1 v r => ?_) fun _ _ _ _ _ _ _ h => h⟩
  exact ⟨G, as1, F1, S1, ρ, s1, sl.mono x1, h1.bind.imp (fun b as2 F2 H2 S2 x2 s2 h2 w t => ⟨G, as2, F2, S2, ρ, a, b, s2, (sl.mono x1).mono x2, r.mono x2, t, h2⟩) fun _ _ _ _ _ _ _ h => h⟩
/-- three in a row -/
theorem rd_three {α : Type} {f g h' : Env → M D} {k : Env → D → D → D → M α} {ok : Hp → α → List Addr → Hp → Hp → Sto → Prop} (h : ∃ G as F S ρ, St0 K G as F H S ∧ Slots K as F ρ σ ∧ fin K G as F (mbind (f ρ) (fun a => mbind (g ρ) fun b => mbind (h' ρ) (k ρ a b)) S) (ok G) (eer K EW σ)) :
    rdE K EW f σ H fun x H1 => rdE K EW g σ H1 fun y H2 => rdE K EW h' σ H2 fun z H3 => ∃ G as F S ρ a b c, St0 K G as F H3 S ∧ Slots K as F ρ σ ∧ Rep K as F a x ∧ Rep K as F b y ∧ Rep K as F c z ∧ fin K G as F (k ρ a b c S) (ok G) (eer K EW σ) := by
  obtain ⟨G, as, F, S, ρ, st, sl, q⟩ := h
  refine ⟨G, as, F, S, ρ, st, sl, q.bind.imp (fun a as1 F1 H1 S1 x1 s1 h1 v r => ?_) fun _ _ _ _ _ _ _ h => h⟩
  refine ⟨G, as1, F1, S1, ρ, s1, sl.mono x1, h1.bind.imp (fun b as2 F2 H2 S2 x2 s2 h2 w t => ?_) fun _ _ _ _ _ _ _ h => h⟩
  exact ⟨G, as2, F2, S2, ρ, s2, (sl.mono x1).mono x2, h2.bind.imp (fun c as3 F3 H3 S3 x3 s3 h3 z u => ⟨G, as3, F3, S3, ρ, a, b, c, s3, ((sl.mono x1).mono x2).mono x3, (r.mono x2).mono x3, t.mono x3, u, h3⟩) fun _ _ _ _ _ _ _ h => h⟩
end

/-! ### names, constants -/
def eVar (i : Nat) : Env → M D := fun ρ => mopt (ρ[i]?).join
def eC (d : D) : Env → M D := fun _ => mret d
section
variable {X : Cx} {EW : XW}
theorem pp_var (i : Nat) {x : Str} {pos : Pos} (hN : X.N[i]? = some x := by rfl) (hv : Vis X.env.scope x := by first | exact Or.inl rfl | exact Or.inr (Or.inl rfl) | exact Or.inr (Or.inr rfl)) (hd : (x == ("__debug__" : Str)) = false := by decide)
    (hcd : (x == ("__classdict__" : Str)) = false := by decide) : PP X EW (.Name x pos) (eVar i) := by
  refine pe_weak (pe_var (i := i) hN hv hd hcd) fun σ H Q h => ?_
  obtain ⟨G, as, F, S, ρ, st, sl, q⟩ := h
  obtain ⟨a, e, q⟩ := fin.opt q
  have e2 : ρ[i]? = some (some a) := by
    cases e3 : ρ[i]? with
    | none => rw [e3] at e; cases e
    | some o => rw [e3] at e; cases o with
      | none => cases e
      | some d => cases e; rfl
  obtain ⟨v, h1, r⟩ := sl.at_ i a e2
  exact ⟨v, h1, q as F H Ext.refl st v r⟩
theorem pp_c {e : Expr} {d : D} {v : V} (h : PE X e (tC v)) (r : ∀ as F, Rep X.K as F d v) : PP X EW e (eC d) := by
  refine pe_weak h fun σ H Q h => ?_
  obtain ⟨G, as, F, S, ρ, st, sl, q⟩ := h
  exact q as F H Ext.refl st v (r as F)
theorem pp_int {i j pos} : PP X EW (.Constant (.int i) j pos) (eC (.int i)) := pp_c pe_int fun _ _ => .int
theorem pp_bl {b j pos} : PP X EW (.Constant (.bool b) j pos) (eC (.bl b)) := pp_c pe_bl fun _ _ => .bl
theorem pp_non {j pos} : PP X EW (.Constant .none j pos) (eC .non) := pp_c pe_non fun _ _ => .non
theorem pp_str {x j pos} : PP X EW (.Constant (.str x) j pos) (eC (.str x)) := pp_c pe_str fun _ _ => .str
/-- a constant of the module -/
theorem pp_glob {x : Str} {d : D} {v : V} {u : Value} {pos : Pos} (hg : Gl X x) (hm : X.mg x = some u) (r : RelV v u) (h : ∀ as F, Rep X.K as F d v) (hd : (x == ("__debug__" : Str)) = false := by decide) : PP X EW (.Name x pos) (eC d) := pp_c (pe_glob hg hm r hd) h
theorem pp_gint {x : Str} {i : Int} {pos : Pos} (hg : Gl X x) (hm : ∃ t, X.mg x = some (.int i t)) (hd : (x == ("__debug__" : Str)) = false := by decide) : PP X EW (.Name x pos) (eC (.int i)) := by
  obtain ⟨t, hm⟩ := hm
  exact pp_glob hg hm (v := .int i) ⟨t, rfl⟩ (fun _ _ => .int) hd
theorem pp_gstr {x z : Str} {pos : Pos} (hg : Gl X x) (hm : ∃ t, X.mg x = some (.str z t)) (hd : (x == ("__debug__" : Str)) = false := by decide) : PP X EW (.Name x pos) (eC (.str z)) := by
  obtain ⟨t, hm⟩ := hm
  exact pp_glob hg hm (v := .str z) ⟨t, rfl⟩ (fun _ _ => .str) hd
/-- a built-in type's name as a value -/
theorem pp_ty {x : Str} {n : String} {pos : Pos} (hg : Gl X x) (hm : X.mg x = none) (hv : bootBuiltins x = some (.type n)) (hn : x ≠ "__name__" := by decide) (hd : (x == ("__debug__" : Str)) = false := by decide) : PP X EW (.Name x pos) (eC (.ty n)) :=
  pp_c (pe_bltn hg hm hv (v := .ty n) rfl hn hd) fun _ _ => .ty
end

/-! ### reading data -/
/-- the items of a list -/
def lstOf (S : Sto) : D → Option (List D)
  | .lst ds => some ds
  | .loc n => (match S[n]? with
    | some (.lst ds) => some ds
    | _ => none)
  | _ => none
/-- the items of a list or a tuple -/
def seqOf (S : Sto) : D → Option (List D)
  | .tup ds => some ds
  | d => lstOf S d
section
variable {K : PySem.W.Frag} {G : Hp} {as : List Addr} {F H : Hp} {S : Sto}
theorem St0.ext_rep (st : St0 K G as F H S) {d : D} {v : V} (r : Rep K as F d v) : Rep K as H d v := r.mono (.ofSub st.sub)
theorem lstOf_ok (st : St0 K G as F H S) {d : D} {v : V} {ds : List D} (r : Rep K as F d v) (h : lstOf S d = some ds) : ∃ a vs, v = .ref a ∧ H a = some (.lst vs) ∧ Reps K as F ds vs := by
  cases d with
  | lst xs =>
    cases h
    cases r with
    | lst q r => exact ⟨_, _, rfl, st.sub _ _ q, r⟩
  | loc n =>
    cases r with
    | loc e =>
      have h : (match S[n]? with
        | some (.lst ds) => some ds
        | _ => none) = some ds := h
      cases e2 : S[n]? with
      | none => rw [e2] at h; cases h
      | some o =>
        rw [e2] at h
        cases o with
        | lst ys =>
          cases h
          obtain ⟨_, vs, h1, r⟩ := st.locs n _ _ e2 e
          exact ⟨_, vs, rfl, h1, r⟩
        | _ => cases h
  | _ => cases h
theorem seqOf_ok (st : St0 K G as F H S) {d : D} {v : V} {ds : List D} (r : Rep K as F d v) (h : seqOf S d = some ds) : ∃ a vs, v = .ref a ∧ (SqL K H a vs ∨ SqT K H a vs) ∧ Reps K as F ds vs := by
  cases d with
  | tup xs =>
    cases h
    cases r with
    | tup q r => exact ⟨_, _, rfl, .inr (same_seqT st.sub q.sq), r⟩
  | _ =>
    obtain ⟨a, vs, h1, h2, h3⟩ := lstOf_ok st r h
    exact ⟨a, vs, h1, .inl (SqL.of h2), h3⟩
end

/-! ### operators -/
def eOp (k : Sto → D → D → Option D) (f g : Env → M D) : Env → M D := fun ρ => mbind (f ρ) fun a => mbind (g ρ) fun b S => mopt (k S a b) S
def eUn (k : Sto → D → Option D) (f : Env → M D) : Env → M D := fun ρ => mbind (f ρ) fun a S => mopt (k S a) S
/-- by values: what the rule asks follows from the mirror's step -/
def OpS (K : PySem.W.Frag) (r : R2) (k : Sto → D → D → Option D) : Prop := ∀ G as F H S a b x y d Q, St0 K G as F H S → Rep K as F a x → Rep K as F b y → k S a b = some d →
  (∀ as' F' H' v, Ext as as' F F' → St0 K G as' F' H' S → Rep K as' F' d v → Q v H') → r x y H Q
def UnS (K : PySem.W.Frag) (r : V → Hp → VK → Prop) (k : Sto → D → Option D) : Prop := ∀ G as F H S a x d Q, St0 K G as F H S → Rep K as F a x → k S a = some d →
  (∀ as' F' H' v, Ext as as' F F' → St0 K G as' F' H' S → Rep K as' F' d v → Q v H') → r x H Q
theorem OpS.or {K : PySem.W.Frag} {r r' : R2} {k k' : Sto → D → D → Option D} (h : OpS K r k) (h' : OpS K r' k') : OpS K (fun x y H Q => r x y H Q ∨ r' x y H Q) (fun S a b => (k S a b).or (k' S a b)) := by
  intro G as F H S a b x y d Q st ra rb e q
  have e : (k S a b).or (k' S a b) = some d := e
  cases e1 : k S a b with
  | none => rw [e1] at e; exact .inr (h' G as F H S a b x y d Q st ra rb e q)
  | some d1 => rw [e1] at e; exact .inl (h G as F H S a b x y d Q st ra rb (e1.trans e) q)
section
variable {X : Cx} {EW : XW} {a b : Expr} {f g : Env → M D} {pos : Pos}
theorem rd_op {r : R2} {k : Sto → D → D → Option D} (hk : OpS X.K r k) {σ : L2.St} {H : Hp} {Q : VK} (h : rdE X.K EW (eOp k f g) σ H Q) : tOp r (rdE X.K EW f) (rdE X.K EW g) σ H Q := by
  obtain ⟨G, as, F, S, ρ, st, sl, q⟩ := rd_two (k := fun _ a b S => mopt (k S a b) S) (ok := fun _ => eok X.K Q) h
  refine ⟨G, as, F, S, ρ, st, sl, q.imp (fun a as1 F1 H1 S1 x1 s1 h1 v r => ?_) fun _ _ _ _ _ _ _ h => h⟩
  obtain ⟨G, as, F, S, ρ, st, sl, q⟩ := h1 v r
  refine ⟨G, as, F, S, ρ, st, sl, q.imp (fun a as1 F1 H1 S1 x1 s1 h1 v r => ?_) fun _ _ _ _ _ _ _ h => h⟩
  obtain ⟨G, as, F, S, ρ, a, b, st, sl, ra, rb, q⟩ := h1 v r
  obtain ⟨d, e, q⟩ := fin.opt q
  exact hk G as F _ S a b _ _ d Q st ra rb e fun as' F' H' v x s r => q as' F' H' x s v r
theorem rd_un {r : V → Hp → VK → Prop} {k : Sto → D → Option D} (hk : UnS X.K r k) {σ : L2.St} {H : Hp} {Q : VK} (h : rdE X.K EW (eUn k f) σ H Q) : rdE X.K EW f σ H fun x H1 => r x H1 Q := by
  obtain ⟨G, as, F, S, ρ, st, sl, q⟩ := rd_one (k := fun _ a S => mopt (k S a) S) (ok := fun _ => eok X.K Q) h
  refine ⟨G, as, F, S, ρ, st, sl, q.imp (fun a as1 F1 H1 S1 x1 s1 h1 v r => ?_) fun _ _ _ _ _ _ _ h => h⟩
  obtain ⟨G, as, F, S, ρ, a, st, sl, ra, q⟩ := h1 v r
  obtain ⟨d, e, q⟩ := fin.opt q
  exact hk G as F _ S a _ d Q st ra e fun as' F' H' v x s r => q as' F' H' x s v r
theorem pp_op {op : Operator} {r : R2} {k : Sto → D → D → Option D} (ho : OpR X (binaryOp op) r) (hk : OpS X.K r k) (ha : PP X EW a f) (hb : PP X EW b g) : PP X EW (.BinOp a op b pos) (eOp k f g) :=
  pe_weak (pe_op ho ha hb) fun _ _ _ h => rd_op hk h
theorem pp_un {op : UnaryOp} {r : V → Hp → VK → Prop} {k : Sto → D → Option D} (ho : UnR X (unaryOp op) r) (hk : UnS X.K r k) (ha : PP X EW a f) : PP X EW (.UnaryOp op a pos) (eUn k f) :=
  pe_weak (pe_un ho ha) fun _ _ _ h => rd_un hk h
theorem pp_cmp {op : CmpOp} {r : R2} {k : Sto → D → D → Option D} (ho : OpR X (compareOp op) r) (hk : OpS X.K r k) (ha : PP X EW a f) (hb : PP X EW b g) (hm : behindInMarks op b = false) : PP X EW (.Compare a [op] [b] pos) (eOp k f g) :=
  pe_weak (pe_cmpR ho ha hb hm) fun _ _ _ h => rd_op hk h
end
/-- a truth value read -/
def asB : D → Option Bool
  | .bl b => some b
  | _ => none
def bOf (f : Env → M D) : Env → M Bool := fun ρ => mbind (f ρ) fun d => mopt (asB d)
theorem rd_bOf {K : PySem.W.Frag} {EW : XW} {f : Env → M D} {σ : L2.St} {H : Hp} {Q : Bool → Hp → Prop} (h : rdT K EW (bOf f) σ H Q) : rdE K EW f σ H fun x H1 => ∃ c, x = .bl c ∧ Q c H1 := by
  obtain ⟨G, as, F, S, ρ, st, sl, q⟩ := rd_one (k := fun _ d => mopt (asB d)) (ok := fun _ => eokb Q) h
  refine ⟨G, as, F, S, ρ, st, sl, q.imp (fun a as1 F1 H1 S1 x1 s1 h1 v r => ?_) fun _ _ _ _ _ _ _ h => h⟩
  obtain ⟨G, as, F, S, ρ, a, st, sl, ra, q⟩ := h1 v r
  obtain ⟨c, e, q⟩ := fin.opt q
  cases a with
  | bl b => cases e; cases ra; exact ⟨_, rfl, q as F _ Ext.refl st⟩
  | _ => cases e
section
variable {X : Cx} {EW : XW} {a b : Expr} {f g : Env → M D} {pos : Pos} {rest : List Expr}
/-- an expression that gives True or False, as a test -/
theorem pb_val {e : Expr} (h : PP X EW e f) (he : ∀ whole, isTrue e X.env whole = (do let v ← whole; standAt e.pos; holding [v] (truthy v)) := by intro _; rfl) : PB X EW e (bOf f) :=
  pt_weak (pt_val h he) fun _ _ _ h => rd_bOf h
theorem pb_cmp {op : CmpOp} {r : R2} {k : Sto → D → D → Option D} (ho : OpR X (compareOp op) r) (hk : OpS X.K r k) (ha : PP X EW a f) (hb : PP X EW b g) (hm : behindInMarks op b = false) : PB X EW (.Compare a [op] [b] pos) (bOf (eOp k f g)) := by
  refine pt_weak (pt_cmpR ho ha hb hm) fun σ H Q h => ?_
  have h2 := rd_bOf h
  exact rd_op hk h2
end
/-! ### tests -/
def bAnd (f g : Env → M Bool) : Env → M Bool := fun ρ => mbind (f ρ) fun c => if c = true then g ρ else mret false
def bOr (f g : Env → M Bool) : Env → M Bool := fun ρ => mbind (f ρ) fun c => if c = true then mret true else g ρ
def bNot (f : Env → M Bool) : Env → M Bool := fun ρ => mbind (f ρ) fun c => mret (!c)
def eAnd (f g : Env → M D) : Env → M D := fun ρ => mbind (f ρ) fun d => mbind (mopt (asB d)) fun c => if c = true then g ρ else mret (.bl false)
def eOr (f g : Env → M D) : Env → M D := fun ρ => mbind (f ρ) fun d => mbind (mopt (asB d)) fun c => if c = true then mret (.bl true) else g ρ
def eNot (f : Env → M D) : Env → M D := fun ρ => mbind (f ρ) fun d => mbind (mopt (asB d)) fun c => mret (.bl (!c))
def eIf (t : Env → M Bool) (f g : Env → M D) : Env → M D := fun ρ => mbind (t ρ) fun c => if c = true then f ρ else g ρ
section
variable {X : Cx} {EW : XW} {a b c : Expr} {f g : Env → M D} {t u : Env → M Bool} {pos : Pos} {rest : List Expr}
theorem pbw_and1 (ha : PB X EW a t) : PBW X EW (.BoolOp .And [a] pos) t := pw_and1 ha
theorem pbw_or1 (ha : PB X EW a t) : PBW X EW (.BoolOp .Or [a] pos) t := pw_or1 ha
theorem pbw_and (ha : PB X EW a t) (hb : PBW X EW (.BoolOp .And (b :: rest) pos) u) : PBW X EW (.BoolOp .And (a :: b :: rest) pos) (bAnd t u) := by
  refine pw_weak (pw_and ha hb) fun σ H Q h => ?_
  obtain ⟨G, as, F, S, ρ, st, sl, q⟩ := rd_oneB (k := fun ρ c => if c = true then u ρ else mret false) (ok := fun _ => eokb Q) h
  refine ⟨G, as, F, S, ρ, st, sl, q.imp (fun c as1 F1 H1 S1 x1 s1 h1 => ?_) fun _ _ _ _ _ _ _ h => h⟩
  obtain ⟨G, as, F, S, ρ, a, st, sl, rfl, q⟩ := h1
  cases a with
  | true => exact ⟨G, as, F, S, ρ, st, sl, q⟩
  | false => exact q as F _ Ext.refl st
theorem pbw_or (ha : PB X EW a t) (hb : PBW X EW (.BoolOp .Or (b :: rest) pos) u) : PBW X EW (.BoolOp .Or (a :: b :: rest) pos) (bOr t u) := by
  refine pw_weak (pw_or ha hb) fun σ H Q h => ?_
  obtain ⟨G, as, F, S, ρ, st, sl, q⟩ := rd_oneB (k := fun ρ c => if c = true then mret true else u ρ) (ok := fun _ => eokb Q) h
  refine ⟨G, as, F, S, ρ, st, sl, q.imp (fun c as1 F1 H1 S1 x1 s1 h1 => ?_) fun _ _ _ _ _ _ _ h => h⟩
  obtain ⟨G, as, F, S, ρ, a, st, sl, rfl, q⟩ := h1
  cases a with
  | true => exact q as F _ Ext.refl st
  | false => exact ⟨G, as, F, S, ρ, st, sl, q⟩
theorem pb_not (ha : PB X EW a t) : PB X EW (.UnaryOp .Not a pos) (bNot t) := by
  refine pt_weak (pt_not ha) fun σ H Q h => ?_
  obtain ⟨G, as, F, S, ρ, st, sl, q⟩ := rd_oneB (k := fun ρ c => mret (!c)) (ok := fun _ => eokb Q) h
  refine ⟨G, as, F, S, ρ, st, sl, q.imp (fun c as1 F1 H1 S1 x1 s1 h1 => ?_) fun _ _ _ _ _ _ _ h => h⟩
  obtain ⟨G, as, F, S, ρ, a, st, sl, rfl, q⟩ := h1
  exact q as F _ Ext.refl st
theorem pp_ifx (hc : PB X EW c t) (ha : PP X EW a f) (hb : PP X EW b g) : PP X EW (.IfExp c a b pos) (eIf t f g) := by
  refine pe_weak (pe_ifExp hc ha hb) fun σ H Q h => ?_
  obtain ⟨G, as, F, S, ρ, st, sl, q⟩ := rd_oneB (k := fun ρ c => if c = true then f ρ else g ρ) (ok := fun _ => eok X.K Q) h
  refine ⟨G, as, F, S, ρ, st, sl, q.imp (fun c as1 F1 H1 S1 x1 s1 h1 => ?_) fun _ _ _ _ _ _ _ h => h⟩
  obtain ⟨G, as, F, S, ρ, a, st, sl, rfl, q⟩ := h1
  cases a with
  | true => exact ⟨G, as, F, S, ρ, st, sl, q⟩
  | false => exact ⟨G, as, F, S, ρ, st, sl, q⟩
theorem pp_one {op} (h : PP X EW a f) : PP X EW (.BoolOp op [a] pos) f := pe_one h
theorem pp_and (ha : PP X EW a f) (hb : PP X EW (.BoolOp .And (b :: rest) pos) g) : PP X EW (.BoolOp .And (a :: b :: rest) pos) (eAnd f g) := by
  refine pe_weak (pe_and ha hb) fun σ H Q h => ?_
  obtain ⟨G, as, F, S, ρ, st, sl, q⟩ := rd_one (k := fun ρ d => mbind (mopt (asB d)) fun c => if c = true then g ρ else mret (.bl false)) (ok := fun _ => eok X.K Q) h
  refine ⟨G, as, F, S, ρ, st, sl, q.imp (fun c as1 F1 H1 S1 x1 s1 h1 v r => ?_) fun _ _ _ _ _ _ _ h => h⟩
  obtain ⟨G, as, F, S, ρ, a, st, sl, ra, q⟩ := h1 v r
  obtain ⟨c, e, q⟩ := fin.opt q.bind
  have q := q as F _ Ext.refl st
  cases a with
  | bl b =>
    cases e; cases ra
    refine ⟨_, rfl, ?_⟩
    cases c with
    | true => exact ⟨G, as, F, S, ρ, st, sl, q⟩
    | false => exact q as F _ Ext.refl st _ .bl
  | _ => cases e
theorem pp_or (ha : PP X EW a f) (hb : PP X EW (.BoolOp .Or (b :: rest) pos) g) : PP X EW (.BoolOp .Or (a :: b :: rest) pos) (eOr f g) := by
  refine pe_weak (L2.pe_or ha hb) fun σ H Q h => ?_
  obtain ⟨G, as, F, S, ρ, st, sl, q⟩ := rd_one (k := fun ρ d => mbind (mopt (asB d)) fun c => if c = true then mret (D.bl true) else g ρ) (ok := fun _ => eok X.K Q) h
  refine ⟨G, as, F, S, ρ, st, sl, q.imp (fun c as1 F1 H1 S1 x1 s1 h1 v r => ?_) fun _ _ _ _ _ _ _ h => h⟩
  obtain ⟨G, as, F, S, ρ, a, st, sl, ra, q⟩ := h1 v r
  obtain ⟨c, e, q⟩ := fin.opt q.bind
  have q := q as F _ Ext.refl st
  cases a with
  | bl b =>
    cases e; cases ra
    refine ⟨_, rfl, ?_⟩
    cases c with
    | true => exact q as F _ Ext.refl st _ .bl
    | false => exact ⟨G, as, F, S, ρ, st, sl, q⟩
  | _ => cases e
theorem pp_not (ha : PP X EW a f) : PP X EW (.UnaryOp .Not a pos) (eNot f) := by
  refine pe_weak (pe_not ha) fun σ H Q h => ?_
  obtain ⟨G, as, F, S, ρ, st, sl, q⟩ := rd_one (k := fun ρ d => mbind (mopt (asB d)) fun c => mret (D.bl (!c))) (ok := fun _ => eok X.K Q) h
  refine ⟨G, as, F, S, ρ, st, sl, q.imp (fun c as1 F1 H1 S1 x1 s1 h1 v r => ?_) fun _ _ _ _ _ _ _ h => h⟩
  obtain ⟨G, as, F, S, ρ, a, st, sl, ra, q⟩ := h1 v r
  obtain ⟨c, e, q⟩ := fin.opt q.bind
  have q := q as F _ Ext.refl st
  cases a with
  | bl b => cases e; cases ra; exact ⟨_, rfl, q as F _ Ext.refl st _ .bl⟩
  | _ => cases e
end
/-- a chain of two comparisons -/
def eChain (k k' : Sto → D → D → Option D) (f g h : Env → M D) : Env → M D := fun ρ => mbind (f ρ) fun a => mbind (g ρ) fun b S => match k S a b with
  | some (.bl true) => mbind (h ρ) (fun c S' => mopt (k' S' b c) S') S
  | some (.bl false) => .ok (.bl false) S
  | _ => .stuck
section
variable {X : Cx} {EW : XW} {a b c : Expr} {f g h : Env → M D} {pos : Pos}
theorem rd_chain {r r' : R2} {k k' : Sto → D → D → Option D} (hk : OpS X.K r k) (hk' : OpS X.K r' k') {σ : L2.St} {H : Hp} {Q : VK} (q : rdE X.K EW (eChain k k' f g h) σ H Q) :
    tChain r r' (rdE X.K EW f) (rdE X.K EW g) (rdE X.K EW h) σ H Q := by
  obtain ⟨G, as, F, S, ρ, st, sl, q⟩ := rd_two (k := fun ρ a b S => match k S a b with
    | some (.bl true) => mbind (h ρ) (fun c S' => mopt (k' S' b c) S') S
    | some (.bl false) => .ok (.bl false) S
    | _ => .stuck) (ok := fun _ => eok X.K Q) q
  refine ⟨G, as, F, S, ρ, st, sl, q.imp (fun a as1 F1 H1 S1 x1 s1 h1 v r => ?_) fun _ _ _ _ _ _ _ h => h⟩
  obtain ⟨G, as, F, S, ρ, st, sl, q⟩ := h1 v r
  refine ⟨G, as, F, S, ρ, st, sl, q.imp (fun a as1 F1 H1 S1 x1 s1 h1 w r => ?_) fun _ _ _ _ _ _ _ h => h⟩
  obtain ⟨G, as, F, S, ρ, a, b, st, sl, ra, rb, q⟩ := h1 w r
  cases e : k S a b with
  | none => rw [e] at q; exact q.elim
  | some d =>
    rw [e] at q
    refine hk G as F _ S a b _ _ d _ st ra rb e fun as2 F2 H2 z x2 s2 rz => ?_
    cases d with
    | bl kb =>
      cases rz
      refine ⟨kb, rfl, ?_⟩
      cases kb with
      | true =>
        obtain ⟨G3, as3, F3, S3, ρ3, st3, sl3, q3⟩ := (⟨G, as2, F2, S, ρ, s2, sl.mono x2, (fin.mono q x2).bind⟩ : ∃ G as F S ρ, St0 X.K G as F H2 S ∧ Slots X.K as F ρ σ ∧ fin X.K G as F (h ρ S) (fun c as' F' H' S' => fin X.K G as' F' (mopt (k' S' b c) S') (eok X.K Q) (eer X.K EW σ)) (eer X.K EW σ))
        refine ⟨G, as2, F2, S, ρ, s2, sl.mono x2, (fin.mono q x2).bind.imp (fun c as4 F4 H4 S4 x4 s4 h4 u ru => ?_) fun _ _ _ _ _ _ _ h => h⟩
        obtain ⟨d', e', q'⟩ := fin.opt h4
        exact hk' G as4 F4 _ S4 b c _ _ d' Q s4 ((rb.mono x2).mono x4) ru e' fun as' F' H' v x s r => q' as' F' H' x s v r
      | false => exact q as2 F2 H2 x2 s2 _ .bl
    | _ => exact q.elim
theorem pp_chain {op op' : CmpOp} {r r' : R2} {k k' : Sto → D → D → Option D} (ho : OpR X (compareOp op) r) (hk : OpS X.K r k) (ho' : OpR X (compareOp op') r') (hk' : OpS X.K r' k') (ha : PP X EW a f) (hb : PP X EW b g) (hc : PP X EW c h)
    (hm : lastMarks [op, op'] [b, c] = false := by with_unfolding_all rfl) : PP X EW (.Compare a [op, op'] [b, c] pos) (eChain k k' f g h) := pe_weak (pe_chain ho ho' ha hb hc hm) fun _ _ _ q => rd_chain hk hk' q
theorem pb_chain {op op' : CmpOp} {r r' : R2} {k k' : Sto → D → D → Option D} (ho : OpR X (compareOp op) r) (hk : OpS X.K r k) (ho' : OpR X (compareOp op') r') (hk' : OpS X.K r' k') (ha : PP X EW a f) (hb : PP X EW b g) (hc : PP X EW c h)
    (hm : lastMarks [op, op'] [b, c] = false := by with_unfolding_all rfl) : PB X EW (.Compare a [op, op'] [b, c] pos) (bOf (eChain k k' f g h)) := by
  refine pt_weak (pt_chain ho ho' ha hb hc hm) fun σ H Q q => ?_
  exact rd_chain hk hk' (rd_bOf q)
end
end M2

/-! M2c: the mirror's steps: numbers, ==, subscripts, slices, built-ins, displays -/
namespace M2
open PySem PySem.Spec PyProof.Rows L2

/-! ### new lists: frozen, or changeable -/
def eFrz (f : Env → M (List D)) : Env → M D := fun ρ => mbind (f ρ) fun ds => mret (.lst ds)
def newLst (ds : List D) : M D := fun S => .ok (.loc S.length) (S ++ [.lst ds])
def eLoc (f : Env → M (List D)) : Env → M D := fun ρ => mbind (f ρ) newLst
theorem lst_ntb {vs : List V} : ∀ ps, HO.lst vs ≠ .tbl ps := fun _ z => nomatch z
theorem tup_ntb {vs : List V} : ∀ ps, HO.tup vs ≠ .tbl ps := fun _ z => nomatch z
section
variable {K : PySem.W.Frag} {EW : XW} {σ : L2.St} {H : Hp} {Q : VK} {f : Env → M (List D)}
theorem rdF_frz (h : rdE K EW (eFrz f) σ H Q) : rdF K EW f σ H Q := by
  obtain ⟨G, as, F, S, ρ, st, sl, q⟩ := h
  refine ⟨G, as, F, S, ρ, st, sl, q.bind.imp (fun ds as1 F1 H1 S1 x1 s1 h1 H2 p vs s2 hG r => ?_) fun _ _ _ _ _ _ _ h => h⟩
  obtain ⟨s3, x3⟩ := s2.unframe hG lst_ntb
  exact h1 as1 _ H2 x3 s3 (.ref p) (.lst upd_same (r.mono x3))
theorem rdF_loc (h : rdE K EW (eLoc f) σ H Q) : rdF K EW f σ H Q := by
  obtain ⟨G, as, F, S, ρ, st, sl, q⟩ := h
  refine ⟨G, as, F, S, ρ, st, sl, q.bind.imp (fun ds as1 F1 H1 S1 x1 s1 h1 H2 p vs s2 hG r => ?_) fun _ _ _ _ _ _ _ h => h⟩
  obtain ⟨d1, d2⟩ := s2.dis p _ upd_same
  obtain ⟨s3, x3⟩ := s2.unframeLoc (u := .lst ds) hG fun as' x => ⟨d1, vs, s2.keep _ _ upd_same, r.mono x⟩
  refine h1 _ F1 H2 x3 s3 (.ref p) (.loc ?_)
  rw [← s1.len]
  simp
end
section
variable {X : Cx} {EW : XW} {e : Expr} {f : Env → M (List D)}
theorem PF.frz (h : PF X EW e f) : PP X EW e (eFrz f) := pe_weak h fun _ _ _ q => rdF_frz q
theorem PF.loc (h : PF X EW e f) : PP X EW e (eLoc f) := pe_weak h fun _ _ _ q => rdF_loc q
end
/-- a rule that lays a new list of what the mirror tells -/
def UnF (K : PySem.W.Frag) (r : V → Hp → VK → Prop) (k : Sto → D → Option (List D)) : Prop := ∀ G as F H S a x ds Q, St0 K G as F H S → Rep K as F a x → k S a = some ds → (∀ p vs, H p = none → Reps K as F ds vs → Q (.ref p) (upd H p (.lst vs))) → r x H Q
def OpF (K : PySem.W.Frag) (r : R2) (k : Sto → D → D → Option (List D)) : Prop := ∀ G as F H S a b x y ds Q, St0 K G as F H S → Rep K as F a x → Rep K as F b y → k S a b = some ds → (∀ p vs, H p = none → Reps K as F ds vs → Q (.ref p) (upd H p (.lst vs))) → r x y H Q
def fUn (k : Sto → D → Option (List D)) (f : Env → M D) : Env → M (List D) := fun ρ => mbind (f ρ) fun a S => mopt (k S a) S
def fOp (k : Sto → D → D → Option (List D)) (f g : Env → M D) : Env → M (List D) := fun ρ => mbind (f ρ) fun a => mbind (g ρ) fun b S => mopt (k S a b) S
section
variable {K : PySem.W.Frag} {EW : XW} {σ : L2.St} {H : Hp} {Q : VK} {f g : Env → M D}
theorem eokf_new {G : Hp} {as : List Addr} {F H1 : Hp} {S : Sto} {ds : List D} (st : St0 K G as F H1 S) (q : fin K G as F (.ok ds S) (eokf K G Q) (eer K EW σ)) {p : Addr} {vs : List V} (hp : H1 p = none) (r : Reps K as F ds vs) : Q (.ref p) (upd H1 p (.lst vs)) :=
  q as F H1 Ext.refl st (upd H1 p (.lst vs)) p vs (st.frame hp lst_ntb) (st.gNone hp) r
theorem rd_unF {r : V → Hp → VK → Prop} {k : Sto → D → Option (List D)} (hk : UnF K r k) (h : rdF K EW (fUn k f) σ H Q) : rdE K EW f σ H fun x H1 => r x H1 Q := by
  obtain ⟨G, as, F, S, ρ, st, sl, q⟩ := rd_one (k := fun _ a S => mopt (k S a) S) (ok := fun G => eokf K G Q) h
  refine ⟨G, as, F, S, ρ, st, sl, q.imp (fun a as1 F1 H1 S1 x1 s1 h1 v r => ?_) fun _ _ _ _ _ _ _ h => h⟩
  obtain ⟨G, as, F, S, ρ, a, st, sl, ra, q⟩ := h1 v r
  have q : fin K G as F (mopt (k S a) S) (eokf K G Q) (eer K EW σ) := q
  cases e : k S a with
  | none => rw [e] at q; exact q.elim
  | some ds => rw [e] at q; exact hk G as F _ S a _ ds Q st ra e fun p vs hp r => eokf_new st q hp r
theorem rd_opF {r : R2} {k : Sto → D → D → Option (List D)} (hk : OpF K r k) (h : rdF K EW (fOp k f g) σ H Q) : tOp r (rdE K EW f) (rdE K EW g) σ H Q := by
  obtain ⟨G, as, F, S, ρ, st, sl, q⟩ := rd_two (k := fun _ a b S => mopt (k S a b) S) (ok := fun G => eokf K G Q) h
  refine ⟨G, as, F, S, ρ, st, sl, q.imp (fun a as1 F1 H1 S1 x1 s1 h1 v r => ?_) fun _ _ _ _ _ _ _ h => h⟩
  obtain ⟨G, as, F, S, ρ, st, sl, q⟩ := h1 v r
  refine ⟨G, as, F, S, ρ, st, sl, q.imp (fun a as1 F1 H1 S1 x1 s1 h1 v r => ?_) fun _ _ _ _ _ _ _ h => h⟩
  obtain ⟨G, as, F, S, ρ, a, b, st, sl, ra, rb, q⟩ := h1 v r
  have q : fin K G as F (mopt (k S a b) S) (eokf K G Q) (eer K EW σ) := q
  cases e : k S a b with
  | none => rw [e] at q; exact q.elim
  | some ds => rw [e] at q; exact hk G as F _ S a b _ _ ds Q st ra rb e fun p vs hp r => eokf_new st q hp r
end
/-- .. frozen at once -/
theorem OpF.op {K : PySem.W.Frag} {r : R2} {k : Sto → D → D → Option (List D)} (h : OpF K r k) : OpS K r fun S a b => (k S a b).map .lst := by
  intro G as F H S a b x y d Q st ra rb e q
  have e : (k S a b).map D.lst = some d := e
  cases e1 : k S a b with
  | none => rw [e1] at e; cases e
  | some ds =>
    rw [e1] at e; cases e
    refine h G as F H S a b x y ds Q st ra rb e1 fun p vs hp r => ?_
    obtain ⟨s2, x2⟩ := st.new (o := .lst vs) hp lst_ntb
    exact q as _ _ (.ref p) x2 s2 (.lst upd_same (r.mono x2))

/-! ### numbers -/
def kI (f : Int → Int → Option Int) : Sto → D → D → Option D := fun _ a b => match a, b with
  | .int i, .int j => (f i j).map .int
  | _, _ => none
def kIB (f : Int → Int → Bool) : Sto → D → D → Option D := fun _ a b => match a, b with
  | .int i, .int j => some (.bl (f i j))
  | _, _ => none
theorem opS_I {K : PySem.W.Frag} {C : Int → Int → Prop} {g : Int → Int → Int} {f : Int → Int → Option Int} (h : ∀ i j k, f i j = some k → C i j ∧ k = g i j) : OpS K (rI C fun i j => .int (g i j)) (kI f) := by
  intro G as F H S a b x y d Q st ra rb e q
  cases a with
  | int i => cases b with
    | int j =>
      have e : (f i j).map D.int = some d := e
      cases e1 : f i j with
      | none => rw [e1] at e; cases e
      | some k =>
        rw [e1] at e; cases e
        obtain ⟨c, rfl⟩ := h i j k e1
        cases ra; cases rb
        exact ⟨i, j, rfl, rfl, c, q as F H _ Ext.refl st .int⟩
    | _ => cases e
  | _ => cases e
theorem opS_I0 {K : PySem.W.Frag} {g : Int → Int → Int} : OpS K (rI0 fun i j => .int (g i j)) (kI fun i j => some (g i j)) := by
  intro G as F H S a b x y d Q st ra rb e q
  cases a with
  | int i => cases b with
    | int j => cases e; cases ra; cases rb; exact ⟨i, j, rfl, rfl, q as F H _ Ext.refl st .int⟩
    | _ => cases e
  | _ => cases e
theorem opS_IB {K : PySem.W.Frag} {g : Int → Int → Bool} : OpS K (rI0 fun i j => .bl (g i j)) (kIB g) := by
  intro G as F H S a b x y d Q st ra rb e q
  cases a with
  | int i => cases b with
    | int j => cases e; cases ra; cases rb; exact ⟨i, j, rfl, rfl, q as F H _ Ext.refl st .bl⟩
    | _ => cases e
  | _ => cases e
/-- two lists put together -/
def kCat : Sto → D → D → Option (List D) := fun S a b => match lstOf S a, lstOf S b with
  | some xs, some ys => if xs.length + ys.length ≤ sizeLine then some (xs ++ ys) else none
  | _, _ => none
theorem opF_cat {K : PySem.W.Frag} : OpF K rCat kCat := by
  intro G as F H S a b x y ds Q st ra rb e q
  unfold kCat at e
  cases e1 : lstOf S a with
  | none => rw [e1] at e; cases e
  | some xs => cases e2 : lstOf S b with
    | none => rw [e1, e2] at e; cases e
    | some ys =>
      rw [e1, e2] at e
      have e : (if xs.length + ys.length ≤ sizeLine then some (xs ++ ys) else none) = some ds := e
      split at e
      · rename_i hz
        cases e
        obtain ⟨l, vs, rfl, h1, r1⟩ := lstOf_ok st ra e1
        obtain ⟨m, ws, rfl, h2, r2⟩ := lstOf_ok st rb e2
        exact ⟨l, m, vs, ws, rfl, rfl, h1, h2, by rw [← r1.length, ← r2.length]; exact hz, fun p hp => q p _ hp (r1.append r2)⟩
      · cases e
def kRep : Sto → D → D → Option (List D) := fun S a b => match lstOf S a, b with
  | some xs, .int k => if -(2 ^ 63) ≤ k ∧ k < 2 ^ 63 ∧ xs.length * k.toNat ≤ sizeLine then some (List.flatten (List.replicate k.toNat xs)) else none
  | _, _ => none
def kAddStr : Sto → D → D → Option D := fun _ a b => match a, b with
  | .str x, .str y => if x.length + y.length ≤ sizeLine then some (.str (x ++ y)) else none
  | _, _ => none
theorem opS_addStr {K : PySem.W.Frag} : OpS K (fun x y H Q => ∃ i j, x = .str i ∧ y = .str j ∧ i.length + j.length ≤ sizeLine ∧ Q (.str (i ++ j)) H) kAddStr := by
  intro G as F H S a b x y d Q st ra rb e q
  cases a with
  | str i => cases b with
    | str j =>
      have e : (if i.length + j.length ≤ sizeLine then some (D.str (i ++ j)) else none) = some d := e
      split at e
      · rename_i hz
        cases e; cases ra; cases rb
        exact ⟨i, j, rfl, rfl, hz, q as F H _ Ext.refl st .str⟩
      · cases e
    | _ => cases e
  | _ => cases e
def kCatT : Sto → D → D → Option D := fun _ a b => match a, b with
  | .tup xs, .tup ys => if xs ≠ [] ∧ xs.length + ys.length ≤ sizeLine then some (.tup (xs ++ ys)) else none
  | _, _ => none
abbrev kAddI := kI fun i j => some (i + j)
abbrev kSub := kI fun i j => some (i - j)
def mulOk (i j : Int) : Bool := decide (-(2 ^ 64) < i ∧ i < 2 ^ 64) || decide (-(2 ^ 64) < j ∧ j < 2 ^ 64) || decide (i.natAbs.log2 + j.natAbs.log2 < 1000000)
abbrev kMulI := kI fun i j => if mulOk i j = true then some (i * j) else none
abbrev kMod := kI fun i j => if j ≠ 0 then some (i.fmod j) else none
abbrev kFdiv := kI fun i j => if j ≠ 0 ∧ j.natAbs < 1073741824 then some (i.fdiv j) else none
abbrev kPow := kI fun i j => if 0 ≤ j ∧ j ≤ 1000000 ∧ i.natAbs < 2 ^ 64 then some (i ^ j.toNat) else none
def kAdd : Sto → D → D → Option D := fun S a b => (kAddI S a b).or ((kAddStr S a b).or ((kCat S a b).map .lst))
section
variable {X : Cx} {EW : XW} {a b : Expr} {f g : Env → M D} {pos : Pos}
theorem pp_add (ha : PP X EW a f) (hb : PP X EW b g) : PP X EW (.BinOp a .Add b pos) (eOp kAdd f g) := pp_op (op_add.or (op_add_str.or op_cat)) (opS_I0.or (opS_addStr.or opF_cat.op)) ha hb
theorem pp_sub (ha : PP X EW a f) (hb : PP X EW b g) : PP X EW (.BinOp a .Sub b pos) (eOp kSub f g) := pp_op op_sub opS_I0 ha hb
theorem op_mulA : OpR X (binaryOp .Mult) (rI (fun i j => mulOk i j = true) fun i j => .int (i * j)) := by
  intro pins s σ H x y v u Q I r1 r2 h
  obtain ⟨i, j, rfl, rfl, hc, q⟩ := h
  unfold mulOk at hc
  rw [Bool.or_eq_true, Bool.or_eq_true, decide_eq_true_eq, decide_eq_true_eq, decide_eq_true_eq] at hc
  rcases hc with (hc | hc) | hc
  · exact op_mul pins s σ H _ _ v u Q I r1 r2 ⟨i, j, rfl, rfl, .inl hc, q⟩
  · exact op_mul pins s σ H _ _ v u Q I r1 r2 ⟨i, j, rfl, rfl, .inr hc, q⟩
  · exact op_mulW pins s σ H _ _ v u Q I r1 r2 ⟨i, j, rfl, rfl, hc, q⟩
theorem opS_mul {K : PySem.W.Frag} : OpS K (rI (fun i j => mulOk i j = true) fun i j => .int (i * j)) kMulI := opS_I fun i j k e => by
  split at e
  · cases e; exact ⟨by assumption, rfl⟩
  · cases e
theorem opF_rep {K : PySem.W.Frag} : OpF K rRep kRep := by
  intro G as F H S a b x y ds Q st ra rb e q
  unfold kRep at e
  cases e1 : lstOf S a with
  | none => rw [e1] at e; cases b <;> cases e
  | some xs =>
    rw [e1] at e
    cases b with
    | int k =>
      have e : (if -(2 ^ 63) ≤ k ∧ k < 2 ^ 63 ∧ xs.length * k.toNat ≤ sizeLine then some (List.flatten (List.replicate k.toNat xs)) else none) = some ds := e
      split at e
      · rename_i hz
        cases e; cases rb
        obtain ⟨l, vs, rfl, h1, r1⟩ := lstOf_ok st ra e1
        refine ⟨l, k, vs, rfl, rfl, h1, hz.1, hz.2.1, by rw [← r1.length]; exact hz.2.2, fun p hp => q p _ hp ?_⟩
        have rr : ∀ n : Nat, Reps K as F (List.flatten (List.replicate n xs)) (List.flatten (List.replicate n vs)) := fun n => by
          induction n with
          | zero => exact .nil
          | succ n ih => rw [List.replicate_succ, List.replicate_succ, List.flatten_cons, List.flatten_cons]; exact r1.append ih
        exact rr _
      · cases e
    | _ => cases e
def kMul : Sto → D → D → Option D := fun S a b => (kMulI S a b).or ((kRep S a b).map .lst)
theorem pp_mul (ha : PP X EW a f) (hb : PP X EW b g) : PP X EW (.BinOp a .Mult b pos) (eOp kMul f g) := pp_op (op_mulA.or op_rep) (opS_mul.or opF_rep.op) ha hb
theorem pf_rep (ha : PP X EW a f) (hb : PP X EW b g) : PF X EW (.BinOp a .Mult b pos) (fOp kRep f g) := pe_weak (pe_op op_rep ha hb) fun _ _ _ h => rd_opF opF_rep h
theorem pf_cat (ha : PP X EW a f) (hb : PP X EW b g) : PF X EW (.BinOp a .Add b pos) (fOp kCat f g) := pe_weak (pe_op op_cat ha hb) fun _ _ _ h => rd_opF opF_cat h
theorem pp_mod (ha : PP X EW a f) (hb : PP X EW b g) : PP X EW (.BinOp a .Mod b pos) (eOp kMod f g) := pp_op op_modN (opS_I fun i j k e => by
  split at e
  · cases e; exact ⟨by assumption, rfl⟩
  · cases e) ha hb
theorem pp_fdiv (ha : PP X EW a f) (hb : PP X EW b g) : PP X EW (.BinOp a .FloorDiv b pos) (eOp kFdiv f g) := pp_op op_fdivN (opS_I fun i j k e => by
  split at e
  · cases e; exact ⟨by assumption, rfl⟩
  · cases e) ha hb
theorem pp_pow (ha : PP X EW a f) (hb : PP X EW b g) : PP X EW (.BinOp a .Pow b pos) (eOp kPow f g) := pp_op op_pow (opS_I fun i j k e => by
  split at e
  · cases e; exact ⟨by assumption, rfl⟩
  · cases e) ha hb
def kNeg : Sto → D → Option D := fun _ a => match a with
  | .int i => some (.int (-i))
  | _ => none
theorem pp_neg (ha : PP X EW a f) : PP X EW (.UnaryOp .USub a pos) (eUn kNeg f) := pp_un un_neg (by
  intro G as F H S a x d Q st ra e q
  cases a with
  | int i => cases e; cases ra; exact ⟨i, rfl, q as F H _ Ext.refl st .int⟩
  | _ => cases e) ha
abbrev kLt := kIB fun i j => decide (i < j)
abbrev kLe := kIB fun i j => decide (i ≤ j)
abbrev kGt := kIB fun i j => decide (j < i)
abbrev kGe := kIB fun i j => decide (j ≤ i)
end
/-! ### deep == -/
mutual
def dpy : D → Option PyData
  | .non => some .none
  | .bl b => some (.bool b)
  | .int i => some (.int i)
  | .str x => some (.str x)
  | .tup ds => (dpys ds).map .tuple
  | .lst ds => (dpys ds).map .list
  | _ => none
def dpys : List D → Option (List PyData)
  | [] => some []
  | d :: ds => match dpy d, dpys ds with
    | some p, some q => some (p :: q)
    | _, _ => none
end
def dpyS (S : Sto) : D → Option PyData
  | .loc n => (match S[n]? with
    | some (.lst ds) => (dpys ds).map .list
    | _ => none)
  | d => dpy d
section
variable {K : PySem.W.Frag} {as : List Addr} {F H : Hp}
mutual
theorem dp_of (hs : Same F H) : ∀ (d : D) (p : PyData) (v : V), dpy d = some p → Rep K as F d v → Dp K H v p
  | .non, p, v, e, r => by cases e; cases r; exact .non
  | .bl b, p, v, e, r => by cases e; cases r; exact .bl b
  | .int b, p, v, e, r => by cases e; cases r; exact .int b
  | .str b, p, v, e, r => by cases e; cases r; exact .str b
  | .tup ds, p, v, e, r => by
    have e : (dpys ds).map PyData.tuple = some p := e
    cases e1 : dpys ds with
    | none => rw [e1] at e; cases e
    | some ps =>
      rw [e1] at e; cases e
      cases r with
      | tup h r => exact .tup (same_seqT hs h.sq) (dps_of hs ds ps _ e1 r)
  | .lst ds, p, v, e, r => by
    have e : (dpys ds).map PyData.list = some p := e
    cases e1 : dpys ds with
    | none => rw [e1] at e; cases e
    | some ps =>
      rw [e1] at e; cases e
      cases r with
      | lst h r => exact .lst (SqL.of (hs _ _ h)) (dps_of hs ds ps _ e1 r)
  | .ty _, _, _, e, _ => by cases e
  | .glo _, _, _, e, _ => by cases e
  | .loc _, _, _, e, _ => by cases e
  | .dic _, _, _, e, _ => by cases e
  | .dit _, _, _, e, _ => by cases e
  | .ins _ _, _, _, e, _ => by cases e
  | .wls _, _, _, e, _ => by cases e
theorem dps_of (hs : Same F H) : ∀ (ds : List D) (ps : List PyData) (vs : List V), dpys ds = some ps → Reps K as F ds vs → DpAll K H vs ps
  | [], ps, vs, e, r => by cases e; cases r; exact .nil
  | d :: ds, ps, vs, e, r => by
    have e : (match dpy d, dpys ds with
      | some p, some q => some (p :: q)
      | _, _ => none) = some ps := e
    cases e1 : dpy d with
    | none => rw [e1] at e; cases e
    | some p => cases e2 : dpys ds with
      | none => rw [e1, e2] at e; cases e
      | some q =>
        rw [e1, e2] at e; cases e
        cases r with
        | cons r t => exact .cons (dp_of hs d p _ e1 r) (dps_of hs ds q _ e2 t)
end
theorem dpS_of {G : Hp} {S : Sto} (st : St0 K G as F H S) {d : D} {p : PyData} {v : V} (e : dpyS S d = some p) (r : Rep K as F d v) : Dp K H v p := by
  cases d with
  | loc n =>
    cases r with
    | loc h =>
      have e : (match S[n]? with
        | some (.lst ds) => (dpys ds).map PyData.list
        | _ => none) = some p := e
      cases e2 : S[n]? with
      | none => rw [e2] at e; cases e
      | some o =>
        rw [e2] at e
        cases o with
        | lst ys =>
          have e : (dpys ys).map PyData.list = some p := e
          cases e1 : dpys ys with
          | none => rw [e1] at e; cases e
          | some ps =>
            rw [e1] at e; cases e
            obtain ⟨_, vs, h1, r⟩ := st.locs n _ _ e2 h
            exact .lst (SqL.of h1) (dps_of st.sub ys ps vs e1 r)
        | _ => cases e
  | _ => exact dp_of st.sub _ p v e r
end
def kEqB (S : Sto) (a b : D) : Option Bool := match dpyS S a, dpyS S b with
  | some p, some q => if SeqAt.shaped p = true ∧ SeqAt.shaped q = true then some (PyData.eqv p q) else none
  | _, _ => none
def kEq : Sto → D → D → Option D := fun S a b => (kEqB S a b).map .bl
def kNe : Sto → D → D → Option D := fun S a b => (kEqB S a b).map fun c => .bl (!c)
theorem kEqB_ok {K : PySem.W.Frag} {G : Hp} {as : List Addr} {F H : Hp} {S : Sto} (st : St0 K G as F H S) {a b : D} {x y : V} {c : Bool} (ra : Rep K as F a x) (rb : Rep K as F b y) (e : kEqB S a b = some c) :
    ∃ p q, Dp K H x p ∧ Dp K H y q ∧ SeqAt.shaped p = true ∧ SeqAt.shaped q = true ∧ c = PyData.eqv p q := by
  unfold kEqB at e
  cases e1 : dpyS S a with
  | none => rw [e1] at e; cases e
  | some p => cases e2 : dpyS S b with
    | none => rw [e1, e2] at e; cases e
    | some q =>
      rw [e1, e2] at e
      have e : (if SeqAt.shaped p = true ∧ SeqAt.shaped q = true then some (PyData.eqv p q) else none) = some c := e
      split at e
      · rename_i hz
        cases e
        exact ⟨p, q, dpS_of st e1 ra, dpS_of st e2 rb, hz.1, hz.2, rfl⟩
      · cases e
theorem opS_eq {K : PySem.W.Frag} : OpS K (rEqD K) kEq := by
  intro G as F H S a b x y d Q st ra rb e q
  have e : (kEqB S a b).map D.bl = some d := e
  cases e1 : kEqB S a b with
  | none => rw [e1] at e; cases e
  | some c =>
    rw [e1] at e; cases e
    obtain ⟨p, r, h1, h2, h3, h4, rfl⟩ := kEqB_ok st ra rb e1
    exact ⟨p, r, h1, h2, h3, h4, q as F H _ Ext.refl st .bl⟩
theorem opS_ne {K : PySem.W.Frag} : OpS K (rNeD K) kNe := by
  intro G as F H S a b x y d Q st ra rb e q
  have e : (kEqB S a b).map (fun c => D.bl (!c)) = some d := e
  cases e1 : kEqB S a b with
  | none => rw [e1] at e; cases e
  | some c =>
    rw [e1] at e; cases e
    obtain ⟨p, r, h1, h2, h3, h4, rfl⟩ := kEqB_ok st ra rb e1
    exact ⟨p, r, h1, h2, h3, h4, q as F H _ Ext.refl st .bl⟩
/-! ### is None -/
def isNon : D → Bool
  | .non => true
  | _ => false
def kIsN : Sto → D → D → Option D := fun _ a b => match b with
  | .non => some (.bl (isNon a))
  | _ => none
def kNotN : Sto → D → D → Option D := fun _ a b => match b with
  | .non => some (.bl (!isNon a))
  | _ => none
theorem isNon_ok {K : PySem.W.Frag} {as : List Addr} {F : Hp} {a : D} {x : V} (r : Rep K as F a x) : decide (x = .non) = isNon a := by
  cases r <;> first | rfl | exact decide_eq_false (fun z => nomatch z)
theorem opS_isN {K : PySem.W.Frag} : OpS K (fun x y H Q => y = .non ∧ Q (.bl (decide (x = .non))) H) kIsN := by
  intro G as F H S a b x y d Q st ra rb e q
  cases b with
  | non => cases e; cases rb; rw [isNon_ok ra]; exact ⟨rfl, q as F H _ Ext.refl st .bl⟩
  | _ => cases e
theorem opS_notN {K : PySem.W.Frag} : OpS K (fun x y H Q => y = .non ∧ Q (.bl (!decide (x = .non))) H) kNotN := by
  intro G as F H S a b x y d Q st ra rb e q
  cases b with
  | non => cases e; cases rb; rw [isNon_ok ra]; exact ⟨rfl, q as F H _ Ext.refl st .bl⟩
  | _ => cases e
/-! ### subscripts -/
def kIx : Sto → D → D → Option D := fun S a b => match a, b with
  | .str z, .int i => if z.length ≤ sizeLine then (atI z.cps.toList i).map fun c => .str ⟨#[c]⟩ else none
  | a, .int i => (seqOf S a).bind fun ds => atI ds i
  | _, _ => none
theorem reps_atI {K : PySem.W.Frag} {as : List Addr} {F : Hp} {ds : List D} {vs : List V} {i : Int} {d : D} (r : Reps K as F ds vs) (h : atI ds i = some d) : ∃ v, atI vs i = some v ∧ Rep K as F d v := by
  unfold atI at h ⊢
  rw [← r.length]
  cases e : ixN ds.length i with
  | none => rw [e] at h; cases h
  | some j => rw [e] at h; exact r.get h
theorem opS_ix {K : PySem.W.Frag} : OpS K (rIx K) kIx := by
  intro G as F H S a b x y d Q st ra rb e q
  have seq : ∀ i, b = .int i → ((seqOf S a).bind fun ds => atI ds i) = some d → rIx K x y H Q := by
    clear e
    intro i hb e
    subst hb
    cases rb
    cases e1 : seqOf S a with
    | none => rw [e1] at e; cases e
    | some ds =>
      rw [e1] at e
      have e : atI ds i = some d := e
      obtain ⟨p, vs, rfl, h, r⟩ := seqOf_ok st ra e1
      obtain ⟨v, hv, rv⟩ := reps_atI r e
      rcases h with h | h
      · exact .inl ⟨p, vs, i, v, rfl, rfl, h, hv, q as F H v Ext.refl st rv⟩
      · exact .inr (.inl ⟨p, vs, i, v, rfl, rfl, h, hv, q as F H v Ext.refl st rv⟩)
  cases b with
  | int i =>
    cases a with
    | str z =>
      have e : (if z.length ≤ sizeLine then (atI z.cps.toList i).map fun c => D.str ⟨#[c]⟩ else none) = some d := e
      split at e
      · rename_i hz
        cases e1 : atI z.cps.toList i with
        | none => rw [e1] at e; cases e
        | some c =>
          rw [e1] at e; cases e
          cases ra; cases rb
          exact .inr (.inr ⟨z, i, c, rfl, rfl, hz, e1, q as F H _ Ext.refl st .str⟩)
      · cases e
    | _ => exact seq i rfl e
  | _ => cases a <;> cases e
section
variable {X : Cx} {EW : XW} {a b : Expr} {f g : Env → M D} {pos : Pos}
theorem pp_ix (ha : PP X EW a f) (hb : PP X EW b g) (hs : PlainIx b) : PP X EW (.Subscript a b pos) (eOp kIx f g) := pe_weak (pe_ix ix_seq ha hb hs) fun _ _ _ h => rd_op opS_ix h
end
/-! ### slices -/
def cutD (xs : List D) (lo hi : Option Int) : List D := (xs.drop (HT.sIx xs.length 0 lo)).take (HT.sIx xs.length xs.length hi - HT.sIx xs.length 0 lo)
theorem reps_cut {K : PySem.W.Frag} {as : List Addr} {F : Hp} {ds : List D} {vs : List V} (r : Reps K as F ds vs) (lo hi : Option Int) : Reps K as F (cutD ds lo hi) (cutV vs lo hi) := by
  unfold cutD cutV
  rw [← r.length]
  exact (r.drop _).take _
/-- the parts of a slice -/
def pEnd (f : Option (Env → M D)) : Env → M (Option Int) := fun ρ => match f with
  | none => mret none
  | some f => mbind (f ρ) fun d => match d with
    | .int i => mret (some i)
    | _ => mstk
def rdO (K : PySem.W.Frag) (EW : XW) (f : Env → M (Option Int)) : TO := fun σ H Q => ∃ G as F S ρ, St0 K G as F H S ∧ Slots K as F ρ σ ∧ fin K G as F (f ρ S) (fun o _ _ H' _ => Q o H') (eer K EW σ)
section
variable {X : Cx} {EW : XW} {e : Expr} {f : Env → M D}
theorem po_weak {X : Cx} {e : Option Expr} {t t' : TO} (h : PO X e t) (w : ∀ σ H Q, t' σ H Q → t σ H Q) : PO X e t' := ⟨fun pins s σ H Q I q => h.run pins s σ H Q I (w σ H Q q)⟩
theorem pso_none : PO X none (rdO X.K EW (pEnd none)) := po_weak po_none fun σ H Q h => by
  obtain ⟨G, as, F, S, ρ, st, sl, q⟩ := h
  exact q as F H Ext.refl st
theorem pso_some (h : PP X EW e f) : PO X (some e) (rdO X.K EW (pEnd (some f))) := po_weak (po_some h) fun σ H Q h => by
  obtain ⟨G, as, F, S, ρ, st, sl, q⟩ := rd_one (f := f) (k := fun _ d => match d with
    | .int i => mret (some i)
    | _ => mstk) (ok := fun _ o _ _ H' _ => Q o H') h
  refine ⟨G, as, F, S, ρ, st, sl, q.imp (fun a as1 F1 H1 S1 x1 s1 h1 v r => ?_) fun _ _ _ _ _ _ _ h => h⟩
  obtain ⟨G, as, F, S, ρ, a, st, sl, ra, q⟩ := h1 v r
  cases a with
  | int i => cases ra; exact ⟨i, rfl, q as F _ Ext.refl st⟩
  | _ => exact q.elim
end
/-- a list cut: a new list -/
def kSl (S : Sto) (a : D) (lo hi : Option Int) : Option (List D) := match a with
  | .wls ns => some (cutD (ns.map .int) lo hi)
  | a => (lstOf S a).map fun xs => cutD xs lo hi
def fSl (f : Env → M D) (lo hi : Option (Env → M D)) : Env → M (List D) := fun ρ => mbind (f ρ) fun a => mbind (pEnd lo ρ) fun l => mbind (pEnd hi ρ) fun h S => mopt (kSl S a l h) S
/-- a tuple, a text cut -/
def kSlT (a : D) (lo hi : Option Int) : Option D := match a with
  | .tup xs => if HT.sIx xs.length 0 lo = 0 ∧ HT.sIx xs.length xs.length hi = xs.length then none else some (.tup (cutD xs lo hi))
  | _ => none
def eSlT (f : Env → M D) (lo hi : Option (Env → M D)) : Env → M D := fun ρ => mbind (f ρ) fun a => mbind (pEnd lo ρ) fun l => mbind (pEnd hi ρ) fun h => mopt (kSlT a l h)
section
variable {X : Cx} {EW : XW} {e : Expr} {f : Env → M D} {lo hi : Option Expr} {l h : Option (Env → M D)} {pos p2 : Pos}
theorem rd_sl {K : PySem.W.Frag} {α : Type} {k : D → Option Int → Option Int → M α} {ok : Hp → α → List Addr → Hp → Hp → Sto → Prop} {σ : L2.St} {H : Hp} (q : ∃ G as F S ρ, St0 K G as F H S ∧ Slots K as F ρ σ ∧ fin K G as F (mbind (f ρ) (fun a => mbind (pEnd l ρ) fun x => mbind (pEnd h ρ) fun y => k a x y) S) (ok G) (eer K EW σ)) :
    rdE K EW f σ H fun x H1 => rdO K EW (pEnd l) σ H1 fun i H2 => rdO K EW (pEnd h) σ H2 fun j H3 => ∃ G as F S a, St0 K G as F H3 S ∧ Rep K as F a x ∧ fin K G as F (k a i j S) (ok G) (eer K EW σ) := by
  obtain ⟨G, as, F, S, ρ, st, sl, q⟩ := q
  refine ⟨G, as, F, S, ρ, st, sl, q.bind.imp (fun a as1 F1 H1 S1 x1 s1 h1 v r => ?_) fun _ _ _ _ _ _ _ h => h⟩
  refine ⟨G, as1, F1, S1, ρ, s1, sl.mono x1, h1.bind.imp (fun b as2 F2 H2 S2 x2 s2 h2 => ?_) fun _ _ _ _ _ _ _ h => h⟩
  exact ⟨G, as2, F2, S2, ρ, s2, (sl.mono x1).mono x2, h2.bind.imp (fun c as3 F3 H3 S3 x3 s3 h3 => ⟨G, as3, F3, S3, a, s3, (r.mono x2).mono x3, h3⟩) fun _ _ _ _ _ _ _ h => h⟩
theorem pf_sl (he : PP X EW e f) (hl : PO X lo (rdO X.K EW (pEnd l))) (hh : PO X hi (rdO X.K EW (pEnd h))) : PF X EW (.Subscript e (.Slice lo hi none p2) pos) (fSl f l h) := by
  refine pe_weak (pe_slice sl_list he hl hh) fun σ H Q q => ?_
  obtain ⟨G, as, F, S, ρ, st, sl, q⟩ := rd_sl (k := fun a x y S => mopt (kSl S a x y) S) (ok := fun G => eokf X.K G Q) q
  refine ⟨G, as, F, S, ρ, st, sl, q.imp (fun a as1 F1 H1 S1 x1 s1 h1 v r => ?_) fun _ _ _ _ _ _ _ h => h⟩
  obtain ⟨G, as, F, S, ρ, st, sl, q⟩ := h1 v r
  refine ⟨G, as, F, S, ρ, st, sl, q.imp (fun i as1 F1 H1 S1 x1 s1 h1 => ?_) fun _ _ _ _ _ _ _ h => h⟩
  obtain ⟨G, as, F, S, ρ, st, sl, q⟩ := h1
  refine ⟨G, as, F, S, ρ, st, sl, q.imp (fun j as1 F1 H1 S1 x1 s1 h1 => ?_) fun _ _ _ _ _ _ _ h => h⟩
  obtain ⟨G, as, F, S, a, st, ra, q4⟩ := h1
  have q4 : fin X.K G as F (mopt (kSl S a i j) S) (eokf X.K G Q) (eer X.K EW σ) := q4
  cases ek : kSl S a i j with
  | none => rw [ek] at q4; exact q4.elim
  | some ds =>
    rw [ek] at q4
    have lst : (lstOf S a).map (fun xs => cutD xs i j) = some ds → rSlL X.K v i j H1 Q := fun e => by
      cases e1 : lstOf S a with
      | none => rw [e1] at e; cases e
      | some xs =>
        rw [e1] at e; cases e
        obtain ⟨p, vs, rfl, h1, r1⟩ := lstOf_ok st ra e1
        exact ⟨p, vs, rfl, SqL.of h1, fun p hp => eokf_new st q4 hp (reps_cut r1 i j)⟩
    cases a with
    | wls ns => cases ek; cases ra with
      | wls h => exact ⟨_, _, rfl, st.sub.seq h, fun p hp => eokf_new st q4 hp (reps_cut (.of_ints ns) i j)⟩
    | _ => exact lst ek
theorem pp_slT (he : PP X EW e f) (hl : PO X lo (rdO X.K EW (pEnd l))) (hh : PO X hi (rdO X.K EW (pEnd h))) : PP X EW (.Subscript e (.Slice lo hi none p2) pos) (eSlT f l h) := by
  refine pe_weak (pe_slice sl_tup he hl hh) fun σ H Q q => ?_
  obtain ⟨G, as, F, S, ρ, st, sl, q⟩ := rd_sl (k := fun a x y => mopt (kSlT a x y)) (ok := fun _ => eok X.K Q) q
  refine ⟨G, as, F, S, ρ, st, sl, q.imp (fun a as1 F1 H1 S1 x1 s1 h1 v r => ?_) fun _ _ _ _ _ _ _ h => h⟩
  obtain ⟨G, as, F, S, ρ, st, sl, q⟩ := h1 v r
  refine ⟨G, as, F, S, ρ, st, sl, q.imp (fun i as1 F1 H1 S1 x1 s1 h1 => ?_) fun _ _ _ _ _ _ _ h => h⟩
  obtain ⟨G, as, F, S, ρ, st, sl, q⟩ := h1
  refine ⟨G, as, F, S, ρ, st, sl, q.imp (fun j as1 F1 H1 S1 x1 s1 h1 => ?_) fun _ _ _ _ _ _ _ h => h⟩
  obtain ⟨G, as, F, S, a, st, ra, q⟩ := h1
  obtain ⟨d, e, q4⟩ := fin.opt q
  cases a with
  | tup xs =>
    have e : (if HT.sIx xs.length 0 i = 0 ∧ HT.sIx xs.length xs.length j = xs.length then none else some (D.tup (cutD xs i j))) = some d := e
    split at e
    · cases e
    · rename_i hz
      cases e
      cases ra with
      | @tup _ vs _ hT rr =>
        refine ⟨_, vs, rfl, same_seqT st.sub hT.sq, by rw [← rr.length]; exact hz, fun p hp => ?_⟩
        obtain ⟨s2, x2⟩ := st.new (o := .tup (cutV vs i j)) hp tup_ntb
        exact q4 as _ _ x2 s2 _ (.tup (.inl upd_same) ((reps_cut rr i j).mono x2))
  | _ => cases e
/-- xs[::-1] -/
def kRevL : Sto → D → Option (List D) := fun S a => (lstOf S a).map List.reverse
theorem pf_rev {k : Nat} {p1 p3 p4 : Pos} (he : PP X EW e f) : PF X EW (.Subscript e (.Slice none none (some (.UnaryOp .USub (.Constant (.int 1) k p1) p2)) p3) p4) (fUn kRevL f) := by
  refine pe_weak (pe_revL he) fun σ H Q q => ?_
  refine rd_unF (k := kRevL) (r := fun x H1 Q => ∃ a xs, x = .ref a ∧ SqL X.K H1 a xs ∧ ∀ p, H1 p = none → Q (.ref p) (upd H1 p (.lst xs.reverse))) ?_ q
  intro G as F H S a x ds Q st ra e q
  have e : (lstOf S a).map List.reverse = some ds := e
  cases e1 : lstOf S a with
  | none => rw [e1] at e; cases e
  | some xs =>
    rw [e1] at e; cases e
    obtain ⟨p, vs, rfl, h1, r1⟩ := lstOf_ok st ra e1
    exact ⟨p, vs, rfl, SqL.of h1, fun p hp => q p _ hp r1.reverse⟩
end
end M2

/-! M2d: argument lists, built-ins by their name, displays, the methods of lists -/
namespace M2
open PySem PySem.Spec PyProof.Rows L2

/-! ### argument lists -/
def qNil : Env → M (List D) := fun _ => mret []
def qCons (f : Env → M D) (g : Env → M (List D)) : Env → M (List D) := fun ρ => mbind (f ρ) fun d => mbind (g ρ) fun ds => mret (d :: ds)
section
variable {X : Cx} {EW : XW} {e : Expr} {es : List Expr} {f : Env → M D} {g : Env → M (List D)}
theorem pq_nil : PQ X EW [] qNil := pa_weak pa_nil fun σ H Q h => by
  obtain ⟨G, as, F, S, ρ, st, sl, q⟩ := h
  exact q as F H Ext.refl st [] .nil
theorem pq_cons (he : PP X EW e f) (hs : PQ X EW es g) (h1 : starEach (e :: es) X.env = (false, eval e X.env) :: starEach es X.env := by rfl) : PQ X EW (e :: es) (qCons f g) := pa_weak (pa_cons he hs h1) fun σ H Q h => by
  obtain ⟨G, as, F, S, ρ, st, sl, q⟩ := h
  refine ⟨G, as, F, S, ρ, st, sl, q.bind.imp (fun d as1 F1 H1 S1 x1 s1 h1 v rv => ?_) fun _ _ _ _ _ _ _ h => h⟩
  refine ⟨G, as1, F1, S1, ρ, s1, sl.mono x1, h1.bind.imp (fun ds as2 F2 H2 S2 x2 s2 h2 vs rvs => ?_) fun _ _ _ _ _ _ _ h => h⟩
  exact h2 as2 F2 H2 Ext.refl s2 _ (.cons (rv.mono x2) rvs)
end
/-! ### built-ins -/
def eB (k : Sto → List D → Option D) (g : Env → M (List D)) : Env → M D := fun ρ => mbind (g ρ) fun ds S => mopt (k S ds) S
def fB (k : Sto → List D → Option (List D)) (g : Env → M (List D)) : Env → M (List D) := fun ρ => mbind (g ρ) fun ds S => mopt (k S ds) S
def CaS (K : PySem.W.Frag) (r : List V → Hp → VK → Prop) (k : Sto → List D → Option D) : Prop := ∀ G as F H S ds vs d Q, St0 K G as F H S → Reps K as F ds vs → k S ds = some d →
  (∀ as' F' H' v, Ext as as' F F' → St0 K G as' F' H' S → Rep K as' F' d v → Q v H') → r vs H Q
def CaF (K : PySem.W.Frag) (r : List V → Hp → VK → Prop) (k : Sto → List D → Option (List D)) : Prop := ∀ G as F H S ds vs d Q, St0 K G as F H S → Reps K as F ds vs → k S ds = some d →
  (∀ p vs, H p = none → Reps K as F d vs → Q (.ref p) (upd H p (.lst vs))) → r vs H Q
theorem callR_or {X : Cx} {f : Value} {r r' : List V → Hp → VK → Prop} (h : CallR X f r) (h' : CallR X f r') : CallR X f (fun vs H Q => r vs H Q ∨ r' vs H Q) := by
  intro pins s σ H xs us Q I rv q
  rcases q with q | q
  · exact h pins s σ H xs us Q I rv q
  · exact h' pins s σ H xs us Q I rv q
theorem CaS.or {K : PySem.W.Frag} {r r' : List V → Hp → VK → Prop} {k k' : Sto → List D → Option D} (h : CaS K r k) (h' : CaS K r' k') : CaS K (fun vs H Q => r vs H Q ∨ r' vs H Q) (fun S ds => (k S ds).or (k' S ds)) := by
  intro G as F H S ds vs d Q st rs e q
  have e : (k S ds).or (k' S ds) = some d := e
  cases e1 : k S ds with
  | none => rw [e1] at e; exact .inr (h' G as F H S ds vs d Q st rs e q)
  | some d1 => rw [e1] at e; exact .inl (h G as F H S ds vs d Q st rs (e1.trans e) q)
section
variable {X : Cx} {EW : XW} {e : Expr} {es : List Expr} {g : Env → M (List D)} {x : Str} {p pos : Pos} {r : List V → Hp → VK → Prop}
theorem rd_B {k : Sto → List D → Option D} (hk : CaS X.K r k) {σ : L2.St} {H : Hp} {Q : VK} (h : rdE X.K EW (eB k g) σ H Q) : tCB r (rdA X.K EW g) σ H Q := by
  obtain ⟨G, as, F, S, ρ, st, sl, q⟩ := rd_oneA (k := fun _ ds S => mopt (k S ds) S) (ok := fun _ => eok X.K Q) h
  refine ⟨G, as, F, S, ρ, st, sl, q.imp (fun a as1 F1 H1 S1 x1 s1 h1 v r => ?_) fun _ _ _ _ _ _ _ h => h⟩
  obtain ⟨G, as, F, S, ρ, a, st, sl, ra, q⟩ := h1 v r
  obtain ⟨d, e, q⟩ := fin.opt q
  exact hk G as F _ S a _ d Q st ra e fun as' F' H' v x s r => q as' F' H' x s v r
theorem rd_BF {k : Sto → List D → Option (List D)} (hk : CaF X.K r k) {σ : L2.St} {H : Hp} {Q : VK} (h : rdF X.K EW (fB k g) σ H Q) : tCB r (rdA X.K EW g) σ H Q := by
  obtain ⟨G, as, F, S, ρ, st, sl, q⟩ := rd_oneA (k := fun _ ds S => mopt (k S ds) S) (ok := fun G => eokf X.K G Q) h
  refine ⟨G, as, F, S, ρ, st, sl, q.imp (fun a as1 F1 H1 S1 x1 s1 h1 v r => ?_) fun _ _ _ _ _ _ _ h => h⟩
  obtain ⟨G, as, F, S, ρ, a, st, sl, ra, q⟩ := h1 v r
  have q : fin X.K G as F (mopt (k S a) S) (eokf X.K G Q) (eer X.K EW σ) := q
  cases e : k S a with
  | none => rw [e] at q; exact q.elim
  | some d => rw [e] at q; exact hk G as F _ S a _ d Q st ra e fun p vs hp r => eokf_new st q hp r
theorem pp_B {id : String} {k : Sto → List D → Option D} (hc : CallR X (.builtin id) r) (hk : CaS X.K r k) (hg : Gl X x) (hm : X.mg x = none) (hv : bootBuiltins x = some (.builtin id)) (ha : PQ X EW (e :: es) g) (hn : x ≠ "__name__" := by decide) (hdb : (x == ("__debug__" : Str)) = false := by decide)
    (he : starEach (e :: es) X.env = (false, eval e X.env) :: starEach es X.env := by rfl) (hpl : (backTo pos (starEach es X.env)).any (·.1) = false := by rfl) : PP X EW (.Call (.Name x p) (e :: es) [] pos) (eB k g) :=
  pe_weak (pe_callB hc hg hm hv ha hn hdb he hpl) fun _ _ _ h => rd_B hk h
theorem pf_B {id : String} {k : Sto → List D → Option (List D)} (hc : CallR X (.builtin id) r) (hk : CaF X.K r k) (hg : Gl X x) (hm : X.mg x = none) (hv : bootBuiltins x = some (.builtin id)) (ha : PQ X EW (e :: es) g) (hn : x ≠ "__name__" := by decide) (hdb : (x == ("__debug__" : Str)) = false := by decide)
    (he : starEach (e :: es) X.env = (false, eval e X.env) :: starEach es X.env := by rfl) (hpl : (backTo pos (starEach es X.env)).any (·.1) = false := by rfl) : PF X EW (.Call (.Name x p) (e :: es) [] pos) (fB k g) :=
  pe_weak (pe_callB hc hg hm hv ha hn hdb he hpl) fun _ _ _ h => rd_BF hk h
theorem pp_T {T : String} {k : Sto → List D → Option D} (hc : CallR X (.type T) r) (hk : CaS X.K r k) (hg : Gl X x) (hm : X.mg x = none) (hv : bootBuiltins x = some (.type T)) (ha : PQ X EW (e :: es) g) (hn : x ≠ "__name__" := by decide) (hdb : (x == ("__debug__" : Str)) = false := by decide)
    (he : starEach (e :: es) X.env = (false, eval e X.env) :: starEach es X.env := by rfl) (hpl : (backTo pos (starEach es X.env)).any (·.1) = false := by rfl) : PP X EW (.Call (.Name x p) (e :: es) [] pos) (eB k g) :=
  pe_weak (pe_callTy hc hg hm hv ha hn hdb he hpl) fun _ _ _ h => rd_B hk h
theorem pf_T {T : String} {k : Sto → List D → Option (List D)} (hc : CallR X (.type T) r) (hk : CaF X.K r k) (hg : Gl X x) (hm : X.mg x = none) (hv : bootBuiltins x = some (.type T)) (ha : PQ X EW (e :: es) g) (hn : x ≠ "__name__" := by decide) (hdb : (x == ("__debug__" : Str)) = false := by decide)
    (he : starEach (e :: es) X.env = (false, eval e X.env) :: starEach es X.env := by rfl) (hpl : (backTo pos (starEach es X.env)).any (·.1) = false := by rfl) : PF X EW (.Call (.Name x p) (e :: es) [] pos) (fB k g) :=
  pe_weak (pe_callTy hc hg hm hv ha hn hdb he hpl) fun _ _ _ h => rd_BF hk h
end
section
variable {K : PySem.W.Frag} {as : List Addr} {F : Hp}
theorem reps1 {d : D} {vs : List V} (r : Reps K as F [d] vs) : ∃ v, vs = [v] ∧ Rep K as F d v := by
  cases r with
  | cons r t => cases t; exact ⟨_, rfl, r⟩
theorem reps2 {d e : D} {vs : List V} (r : Reps K as F [d, e] vs) : ∃ v w, vs = [v, w] ∧ Rep K as F d v ∧ Rep K as F e w := by
  cases r with
  | cons r t => cases t with
    | cons r' t => cases t; exact ⟨_, _, rfl, r, r'⟩
end
/-- len -/
def kLen : Sto → List D → Option D := fun S ds => match ds with
  | [.str z] => if z.length ≤ sizeLine then some (.int z.length) else none
  | [d] => (seqOf S d).map fun xs => .int xs.length
  | _ => none
theorem caS_len {K : PySem.W.Frag} : CaS K (fun xs H Q => ∃ x n, xs = [x] ∧ LenV K x H n ∧ Q (.int n) H) kLen := by
  intro G as F H S ds vs d Q st rs e q
  have seq : ∀ a, ds = [a] → (seqOf S a).map (fun xs => D.int xs.length) = some d → ∃ x n, vs = [x] ∧ LenV K x H n ∧ Q (.int n) H := by
    clear e
    intro a ha e
    subst ha
    obtain ⟨v, rfl, r⟩ := reps1 rs
    cases e1 : seqOf S a with
    | none => rw [e1] at e; cases e
    | some xs =>
      rw [e1] at e; cases e
      obtain ⟨p, ws, rfl, h, r1⟩ := seqOf_ok st r e1
      have q := q as F H _ Ext.refl st .int
      rw [r1.length] at q
      rcases h with h | h
      · exact ⟨_, ws.length, rfl, .inl ⟨ws, h, rfl⟩, q⟩
      · exact ⟨_, ws.length, rfl, .inr ⟨ws, h, rfl⟩, q⟩
  cases ds with
  | nil => cases e
  | cons a t =>
    cases t with
    | cons b t => cases a <;> cases e
    | nil =>
      cases a with
      | str z =>
        have e : (if z.length ≤ sizeLine then some (D.int z.length) else none) = some d := e
        split at e
        · rename_i hz
          cases e
          obtain ⟨v, rfl, r⟩ := reps1 rs
          cases r
          exact ⟨_, z.length, rfl, ⟨hz, rfl⟩, q as F H _ Ext.refl st .int⟩
        · cases e
      | _ => exact seq _ rfl e
/-- abs, int, bool, str of an int -/
def kAbs : Sto → List D → Option D := fun _ ds => match ds with
  | [.int i] => some (.int (if i < 0 then -i else i))
  | _ => none
theorem caS_abs {K : PySem.W.Frag} : CaS K (fun xs H Q => ∃ i, xs = [.int i] ∧ Q (.int (if i < 0 then -i else i)) H) kAbs := by
  intro G as F H S ds vs d Q st rs e q
  unfold kAbs at e
  split at e
  · cases e
    obtain ⟨v, rfl, r⟩ := reps1 rs
    cases r
    exact ⟨_, rfl, q as F H _ Ext.refl st .int⟩
  · cases e
def kInt : Sto → List D → Option D := fun _ ds => match ds with
  | [.int i] => some (.int i)
  | [.bl b] => some (.int (if b then 1 else 0))
  | _ => none
theorem caS_int {K : PySem.W.Frag} : CaS K (fun xs H Q => (∃ i, xs = [.int i] ∧ Q (.int i) H) ∨ ∃ k, xs = [.bl k] ∧ Q (.int (if k then 1 else 0)) H) kInt := by
  intro G as F H S ds vs d Q st rs e q
  unfold kInt at e
  split at e
  · cases e
    obtain ⟨v, rfl, r⟩ := reps1 rs
    cases r
    exact .inl ⟨_, rfl, q as F H _ Ext.refl st .int⟩
  · cases e
    obtain ⟨v, rfl, r⟩ := reps1 rs
    cases r
    exact .inr ⟨_, rfl, q as F H _ Ext.refl st .int⟩
  · cases e
def kMax2 : Sto → List D → Option D := fun _ ds => match ds with
  | [.int i, .int j] => some (.int (if j > i then j else i))
  | _ => none
def kMin2 : Sto → List D → Option D := fun _ ds => match ds with
  | [.int i, .int j] => some (.int (if j < i then j else i))
  | _ => none
theorem caS_max2 {K : PySem.W.Frag} : CaS K (fun xs H Q => ∃ i j, xs = [.int i, .int j] ∧ Q (.int (if j > i then j else i)) H) kMax2 := by
  intro G as F H S ds vs d Q st rs e q
  unfold kMax2 at e
  split at e
  · cases e
    obtain ⟨v, w, rfl, r, r'⟩ := reps2 rs
    cases r; cases r'
    exact ⟨_, _, rfl, q as F H _ Ext.refl st .int⟩
  · cases e
theorem caS_min2 {K : PySem.W.Frag} : CaS K (fun xs H Q => ∃ i j, xs = [.int i, .int j] ∧ Q (.int (if j < i then j else i)) H) kMin2 := by
  intro G as F H S ds vs d Q st rs e q
  unfold kMin2 at e
  split at e
  · cases e
    obtain ⟨v, w, rfl, r, r'⟩ := reps2 rs
    cases r; cases r'
    exact ⟨_, _, rfl, q as F H _ Ext.refl st .int⟩
  · cases e
/-- a list of ints, of truth values read -/
def ints? : List D → Option (List Int)
  | [] => some []
  | .int i :: ds => (ints? ds).map (i :: ·)
  | _ :: _ => none
theorem ints?_map (ns : List Int) : ints? (ns.map D.int) = some ns := by
  induction ns with
  | nil => rfl
  | cons n ns ih => show (ints? (ns.map D.int)).map (n :: ·) = _; rw [ih]; rfl
theorem ints?_ok {ds : List D} {ns : List Int} (h : ints? ds = some ns) : ds = ns.map D.int := by
  induction ds generalizing ns with
  | nil => cases h; rfl
  | cons d ds ih =>
    cases d with
    | int i =>
      have h : (ints? ds).map (i :: ·) = some ns := h
      cases e : ints? ds with
      | none => rw [e] at h; cases h
      | some ms => rw [e] at h; cases h; rw [ih e]; rfl
    | _ => cases h
def bools? : List D → Option (List Bool)
  | [] => some []
  | .bl i :: ds => (bools? ds).map (i :: ·)
  | _ :: _ => none
theorem bools?_map (ns : List Bool) : bools? (ns.map D.bl) = some ns := by
  induction ns with
  | nil => rfl
  | cons n ns ih => show (bools? (ns.map D.bl)).map (n :: ·) = _; rw [ih]; rfl
theorem bools?_ok {ds : List D} {ns : List Bool} (h : bools? ds = some ns) : ds = ns.map D.bl := by
  induction ds generalizing ns with
  | nil => cases h; rfl
  | cons d ds ih =>
    cases d with
    | bl i =>
      have h : (bools? ds).map (i :: ·) = some ns := h
      cases e : bools? ds with
      | none => rw [e] at h; cases h
      | some ms => rw [e] at h; cases h; rw [ih e]; rfl
    | _ => cases h
theorem Reps.bls {K : PySem.W.Frag} {as : List Addr} {F : Hp} {ns : List Bool} {vs : List V} (r : Reps K as F (ns.map D.bl) vs) : vs = ns.map V.bl := by
  induction ns generalizing vs with
  | nil => cases r; rfl
  | cons n ns ih => cases r with
    | cons r t => cases r; rw [ih t]; rfl
def kSum : Sto → List D → Option D := fun S ds => match ds with
  | [d] => (lstOf S d).bind fun xs => (ints? xs).map fun ns => .int ns.sum
  | _ => none
theorem caS_sum {K : PySem.W.Frag} : CaS K (rSum K) kSum := by
  intro G as F H S ds vs d Q st rs e q
  cases ds with
  | nil => cases e
  | cons a t => cases t with
    | cons b t => cases e
    | nil =>
      have e : ((lstOf S a).bind fun xs => (ints? xs).map fun ns => D.int ns.sum) = some d := e
      cases e1 : lstOf S a with
      | none => rw [e1] at e; cases e
      | some xs =>
        rw [e1] at e
        have e : ((ints? xs).map fun ns => D.int ns.sum) = some d := e
        cases e2 : ints? xs with
        | none => rw [e2] at e; cases e
        | some ns =>
          rw [e2] at e; cases e
          obtain ⟨v, rfl, r⟩ := reps1 rs
          obtain ⟨p, ws, rfl, h, r1⟩ := lstOf_ok st r e1
          rw [ints?_ok e2] at r1
          rw [r1.ints] at h
          exact ⟨p, ns, rfl, SqL.of h, q as F H _ Ext.refl st .int⟩
def kAll : Sto → List D → Option D := fun S ds => match ds with
  | [d] => (lstOf S d).bind fun xs => (bools? xs).map fun ns => .bl (ns.all id)
  | _ => none
theorem caS_all {K : PySem.W.Frag} : CaS K (rAll K) kAll := by
  intro G as F H S ds vs d Q st rs e q
  cases ds with
  | nil => cases e
  | cons a t => cases t with
    | cons b t => cases e
    | nil =>
      have e : ((lstOf S a).bind fun xs => (bools? xs).map fun ns => D.bl (ns.all id)) = some d := e
      cases e1 : lstOf S a with
      | none => rw [e1] at e; cases e
      | some xs =>
        rw [e1] at e
        have e : ((bools? xs).map fun ns => D.bl (ns.all id)) = some d := e
        cases e2 : bools? xs with
        | none => rw [e2] at e; cases e
        | some ns =>
          rw [e2] at e; cases e
          obtain ⟨v, rfl, r⟩ := reps1 rs
          obtain ⟨p, ws, rfl, h, r1⟩ := lstOf_ok st r e1
          rw [bools?_ok e2] at r1
          rw [r1.bls] at h
          exact ⟨p, ns, rfl, SqL.of h, q as F H _ Ext.refl st .bl⟩
def kAny : Sto → List D → Option D := fun S ds => match ds with
  | [d] => (lstOf S d).bind fun xs => (bools? xs).map fun ns => .bl (ns.any id)
  | _ => none
theorem caS_any {K : PySem.W.Frag} : CaS K (rAny K) kAny := by
  intro G as F H S ds vs d Q st rs e q
  cases ds with
  | nil => cases e
  | cons a t => cases t with
    | cons b t => cases e
    | nil =>
      have e : ((lstOf S a).bind fun xs => (bools? xs).map fun ns => D.bl (ns.any id)) = some d := e
      cases e1 : lstOf S a with
      | none => rw [e1] at e; cases e
      | some xs =>
        rw [e1] at e
        have e : ((bools? xs).map fun ns => D.bl (ns.any id)) = some d := e
        cases e2 : bools? xs with
        | none => rw [e2] at e; cases e
        | some ns =>
          rw [e2] at e; cases e
          obtain ⟨v, rfl, r⟩ := reps1 rs
          obtain ⟨p, ws, rfl, h, r1⟩ := lstOf_ok st r e1
          rw [bools?_ok e2] at r1
          rw [r1.bls] at h
          exact ⟨p, ns, rfl, SqL.of h, q as F H _ Ext.refl st .bl⟩
/-- tuple(x), list(x) -/
def kTuple : Sto → List D → Option D := fun S ds => match ds with
  | [d] => (seqOf S d).map .tup
  | _ => none
theorem caS_tuple {K : PySem.W.Frag} : CaS K (fun xs H Q => ∃ p ys, xs = [.ref p] ∧ ((SqL K H p ys ∧ ∀ l, H l = none → Q (.ref l) (upd H l (.tup ys))) ∨ (SqT K H p ys ∧ Q (.ref p) H))) kTuple := by
  intro G as F H S ds vs d Q st rs e q
  cases ds with
  | nil => cases e
  | cons a t => cases t with
    | cons b t => cases e
    | nil =>
      have e : (seqOf S a).map D.tup = some d := e
      obtain ⟨v, rfl, r⟩ := reps1 rs
      have viaL : ∀ xs, lstOf S a = some xs → d = .tup xs → ∃ p ys, [v] = [.ref p] ∧ ((SqL K H p ys ∧ ∀ l, H l = none → Q (.ref l) (upd H l (.tup ys))) ∨ (SqT K H p ys ∧ Q (.ref p) H)) := fun xs e1 e2 => by
        subst e2
        obtain ⟨p, ws, rfl, h, r1⟩ := lstOf_ok st r e1
        refine ⟨p, ws, rfl, .inl ⟨SqL.of h, fun l hl => ?_⟩⟩
        obtain ⟨s2, x2⟩ := st.new (o := .tup ws) hl tup_ntb
        exact q as _ _ _ x2 s2 (.tup (.inl upd_same) (r1.mono x2))
      cases a with
      | tup xs =>
        cases e
        cases r with
        | tup h r1 => exact ⟨_, _, rfl, .inr ⟨same_seqT st.sub h.sq, q as F H _ Ext.refl st (.tup h r1)⟩⟩
      | lst xs => cases e; exact viaL xs rfl rfl
      | loc n =>
        have e : (lstOf S (.loc n)).map D.tup = some d := e
        cases e1 : lstOf S (.loc n) with
        | none => rw [e1] at e; cases e
        | some xs => rw [e1] at e; cases e; exact viaL xs e1 rfl
      | _ => cases e
def kList : Sto → List D → Option (List D) := fun S ds => match ds with
  | [d] => seqOf S d
  | _ => none
theorem caF_list {K : PySem.W.Frag} : CaF K (fun xs H Q => ∃ p ys, xs = [.ref p] ∧ (SqL K H p ys ∨ SqT K H p ys) ∧ ∀ l, H l = none → Q (.ref l) (upd H l (.lst ys))) kList := by
  intro G as F H S ds vs d Q st rs e q
  cases ds with
  | nil => cases e
  | cons a t => cases t with
    | cons b t => cases e
    | nil =>
      obtain ⟨v, rfl, r⟩ := reps1 rs
      obtain ⟨p, ws, rfl, h, r1⟩ := seqOf_ok st r e
      exact ⟨p, ws, rfl, h, fun l hl => q l ws hl r1⟩
/-! ### isinstance -/
/-- the type of data -/
def tyD (S : Sto) : D → Option String
  | .non => some "NoneType"
  | .bl _ => some "bool"
  | .int _ => some "int"
  | .str _ => some "str"
  | .lst _ => some "list"
  | .tup _ => some "tuple"
  | .dic _ => some "dict"
  | .loc n => (match S[n]? with
    | some (.lst _) => some "list"
    | _ => none)
  | _ => none
/-- between built-in types (those that the texts ask) -/
def isB (a b : String) : Option Bool := if a = b then some true else if a = "bool" ∧ b = "int" then some true else
  if (a ∈ ["NoneType", "bool", "int", "str", "list", "tuple", "dict"]) ∧ (b ∈ ["bool", "int", "str", "list", "tuple", "dict"]) then some false else none
theorem isB_ok {K : PySem.W.Frag} {a b : String} {r : Bool} (h : isB a b = some r) : PySem.W.kitOne K (.type a) (.type b) = some r := by
  unfold isB at h
  split at h
  · rename_i e
    cases h
    subst e
    exact kit_ty (by unfold kitB; rw [if_pos (beq_self_eq_true _)])
  · split at h
    · rename_i e
      cases h
      obtain ⟨rfl, rfl⟩ := e
      exact kit_ty (by decide +kernel)
    · split at h
      · rename_i h1 h2 h3
        cases h
        obtain ⟨ha, hb⟩ := h3
        simp only [List.mem_cons, List.not_mem_nil, or_false] at ha hb
        rcases ha with rfl | rfl | rfl | rfl | rfl | rfl | rfl <;> rcases hb with rfl | rfl | rfl | rfl | rfl | rfl <;> first | exact absurd rfl h1 | exact absurd ⟨rfl, rfl⟩ h2 | exact kit_ty (by decide +kernel)
      · cases h
theorem tyD_ok {K : PySem.W.Frag} {G : Hp} {as : List Addr} {F H : Hp} {S : Sto} (st : St0 K G as F H S) {d : D} {v : V} {t : String} (r : Rep K as F d v) (h : tyD S d = some t) : TyX K H v (.type t) := by
  cases r with
  | non => cases h; exact .base .non
  | bl => cases h; exact .base (.bl _)
  | int => cases h; exact .base (.int _)
  | str => cases h; exact .base (.str _)
  | tup hq r =>
    cases h
    rcases hq with hq | ⟨o, its, n, hk, hc, hs⟩
    · exact .base (.tup (st.sub _ _ hq))
    · exact .kTuple hk hc
  | lst hq r => cases h; exact .base (.lst (st.sub _ _ hq))
  | dic hq r => cases h; exact .base (.dK (st.sub _ _ hq))
  | @loc n a hn =>
    have h : (match S[n]? with
      | some (.lst _) => some "list"
      | _ => none) = some t := h
    cases e2 : S[n]? with
    | none => rw [e2] at h; cases h
    | some o =>
      rw [e2] at h
      cases o with
      | lst ys =>
        cases h
        obtain ⟨_, vs, h1, _⟩ := st.locs n _ _ e2 hn
        exact .base (.lst h1)
      | _ => cases h
  | _ => cases h
/-- isinstance(x, T), isinstance(x, (T, U)) -/
def isAny (a : String) : List String → Option Bool
  | [] => some false
  | b :: bs => match isB a b with
    | some true => some true
    | some false => isAny a bs
    | none => none
def tys? : List D → Option (List String)
  | [] => some []
  | .ty n :: ds => (tys? ds).map (n :: ·)
  | _ :: _ => none
def kIsi : Sto → List D → Option D := fun S ds => match ds with
  | [d, .ty n] => (tyD S d).bind fun t => (isB t n).map .bl
  | _ => none
def kIsiT : Sto → List D → Option D := fun S ds => match ds with
  | [d, .tup cs] => (tyD S d).bind fun t => (tys? cs).bind fun ns => (isAny t ns).map .bl
  | _ => none
theorem caS_isi {K : PySem.W.Frag} : CaS K (rIsi K) kIsi := by
  intro G as F H S ds vs d Q st rs e q
  unfold kIsi at e
  split at e
  · rename_i x n
    cases e1 : tyD S x with
    | none => rw [e1] at e; cases e
    | some t =>
      rw [e1] at e
      have e : (isB t n).map D.bl = some d := e
      cases e2 : isB t n with
      | none => rw [e2] at e; cases e
      | some b =>
        rw [e2] at e; cases e
        obtain ⟨v, w, rfl, r, r'⟩ := reps2 rs
        cases r'
        exact ⟨_, _, _, _, b, rfl, .ty n, tyD_ok st r e1, isB_ok e2, q as F H _ Ext.refl st .bl⟩
  · cases e
theorem isAny_ok {K : PySem.W.Frag} {a : String} : ∀ {bs : List String} {r : Bool}, isAny a bs = some r → PySem.W.kitAny K (.type a) (bs.map Value.type) = some r
  | [], r, h => by cases h; exact kitAny_nil
  | b :: bs, r, h => by
    have h : (match isB a b with
      | some true => some true
      | some false => isAny a bs
      | none => none) = some r := h
    cases e : isB a b with
    | none => rw [e] at h; cases h
    | some c =>
      rw [e] at h
      refine kitAny_cons (isB_ok e) (fun hc => ?_) fun hc => ?_
      · subst hc; exact isAny_ok h
      · subst hc; cases h; rfl
theorem caS_isiT {K : PySem.W.Frag} : CaS K (fun vs H Q => rIsiT K vs H Q ∨ rIsiK K vs H Q) kIsiT := by
  intro G as F H S ds vs d Q st rs e q
  unfold kIsiT at e
  split at e
  · rename_i ds x cs
    cases e1 : tyD S x with
    | none => rw [e1] at e; cases e
    | some t =>
      rw [e1] at e
      have e : ((tys? cs).bind fun ns => (isAny t ns).map D.bl) = some d := e
      cases e2 : tys? cs with
      | none => rw [e2] at e; cases e
      | some ns =>
        rw [e2] at e
        have e : (isAny t ns).map D.bl = some d := e
        cases e3 : isAny t ns with
        | none => rw [e3] at e; cases e
        | some b =>
          rw [e3] at e; cases e
          obtain ⟨v, w, rfl, r, r'⟩ := reps2 rs
          have cl : ∀ {cs : List D} {ns : List String} {vs : List V}, tys? cs = some ns → Reps K as F cs vs → vs = ns.map V.ty := by
            intro cs
            induction cs with
            | nil => intro ns vs h r; cases h; cases r; rfl
            | cons c cs ih =>
              intro ns vs h r
              cases c with
              | ty n =>
                have h : (tys? cs).map (n :: ·) = some ns := h
                cases e : tys? cs with
                | none => rw [e] at h; cases h
                | some ms =>
                  rw [e] at h; cases h
                  cases r with
                  | cons r t => cases r; rw [ih e t]; rfl
              | _ => cases h
          have cls : ∀ ns : List String, Paired ClsV (ns.map V.ty) (ns.map Value.type) := fun ns => by
            induction ns with
            | nil => exact .nil
            | cons n ns ih => exact .cons (.ty n) ih
          cases r' with
          | @tup a ws _ hT rr =>
            have ew := cl e2 rr
            subst ew
            rcases hT with hT | ⟨o, its, n, hk, hc, hd, hz, hv⟩
            · exact .inl ⟨v, a, _, .type t, ns.map Value.type, b, rfl, st.sub _ _ hT, cls ns, tyD_ok st r e1, isAny_ok e3, q as F H _ Ext.refl st .bl⟩
            · have ei := ClsV.all (cls ns) hv
              obtain ⟨oc, od, dt, sl⟩ := o
              have hc : oc = .type "tuple" := hc
              have hd : dt = .seq its n := hd
              subst hc hd
              exact .inr ⟨v, a, od, ns.map Value.type, n, sl, .type t, b, rfl, by rw [hk, ← ei], tyD_ok st r e1, isAny_ok e3, q as F H _ Ext.refl st .bl⟩
  · cases e
end M2

/-! M2e: displays, repr, what a def is worth, statements -/
namespace M2
open PySem PySem.Spec PyProof.Rows L2

/-! ### displays -/
def eTup (g : Env → M (List D)) : Env → M D := fun ρ => mbind (g ρ) fun ds => if ds.length ≤ sizeLine then mret (.tup ds) else mstk
def fLst (g : Env → M (List D)) : Env → M (List D) := fun ρ => mbind (g ρ) fun ds => if ds.length ≤ sizeLine then mret ds else mstk
section
variable {X : Cx} {EW : XW} {es : List Expr} {g : Env → M (List D)} {pos : Pos}
theorem pp_tup {k} (h : PQ X EW es g) : PP X EW (.Tuple es k pos) (eTup g) := pe_weak (pe_tup h) fun σ H Q q => by
  obtain ⟨G, as, F, S, ρ, st, sl, q⟩ := rd_oneA (k := fun _ ds => if ds.length ≤ sizeLine then mret (D.tup ds) else mstk) (ok := fun _ => eok X.K Q) q
  refine ⟨G, as, F, S, ρ, st, sl, q.imp (fun a as1 F1 H1 S1 x1 s1 h1 v r => ?_) fun _ _ _ _ _ _ _ h => h⟩
  obtain ⟨G, as, F, S, ρ, ds, st, sl, rs, q⟩ := h1 v r
  have q : fin X.K G as F ((if ds.length ≤ sizeLine then mret (D.tup ds) else mstk) S) (eok X.K Q) (eer X.K EW σ) := q
  split at q
  · rename_i hz
    refine ⟨by rw [← rs.length]; exact hz, fun p hp => ?_⟩
    obtain ⟨s2, x2⟩ := st.new (o := .tup v) hp tup_ntb
    exact q as _ _ x2 s2 _ (.tup (.inl upd_same) (rs.mono x2))
  · exact q.elim
theorem pf_lst (h : PQ X EW es g) : PF X EW (.List es pos) (fLst g) := pe_weak (pe_lst h) fun σ H Q q => by
  obtain ⟨G, as, F, S, ρ, st, sl, q⟩ := rd_oneA (k := fun _ ds => if ds.length ≤ sizeLine then mret ds else mstk) (ok := fun G => eokf X.K G Q) q
  refine ⟨G, as, F, S, ρ, st, sl, q.imp (fun a as1 F1 H1 S1 x1 s1 h1 v r => ?_) fun _ _ _ _ _ _ _ h => h⟩
  obtain ⟨G, as, F, S, ρ, ds, st, sl, rs, q⟩ := h1 v r
  have q : fin X.K G as F ((if ds.length ≤ sizeLine then mret ds else mstk) S) (eokf X.K G Q) (eer X.K EW σ) := q
  split at q
  · rename_i hz
    exact ⟨by rw [← rs.length]; exact hz, fun p hp => eokf_new st q hp rs⟩
  · exact q.elim
end
/-! ### repr of data -/
def isSeqP : PyData → Bool
  | .list _ => true
  | .tuple _ => true
  | _ => false
def reprOk (p : PyData) : Bool := isSeqP p && p.showable && decide (p.depth ≤ 60) && decide (p.hasDict = false) && decide (p.shown.length ≤ sizeLine)
def kRepr : Sto → List D → Option D := fun S ds => match ds with
  | [d] => (dpyS S d).bind fun p => if reprOk p = true then some (.str p.shown) else none
  | _ => none
def rRepr (K : PySem.W.Frag) : List V → Hp → VK → Prop := fun xs H Q => ∃ v p, xs = [v] ∧ Dp K H v p ∧ reprOk p = true ∧ Q (.str p.shown) H
theorem call_repr {X : Cx} {k : Nat} (hr : Room k X.A) (hg : X.A.guards = some []) : CallR X (.builtin "repr") (rRepr X.K) := by
  intro pins s σ H xs us Q I r h
  obtain ⟨v, p, rfl, hp, ok, q⟩ := h
  obtain ⟨u, rfl, ru⟩ := vals1 r
  unfold reprOk at ok
  simp only [Bool.and_eq_true, decide_eq_true_eq] at ok
  obtain ⟨⟨⟨⟨o1, o2⟩, o3⟩, o4⟩, o5⟩ := ok
  obtain ⟨as, rd⟩ := Dp.reads I p v u hp ru
  have un := hr.units
  have go : ∀ a, u = .ref a → wpAny (model X.prog X.w) X.A (call (.builtin "repr") [u]) (EP X pins σ Q) X.xe s := fun a e => by
    subst e
    exact repr_of_reads' rd o2 (PyData.noDict_hsm o4) hg (by omega) (fun _ _ e => e) (fun h' t tk kk => ⟨.str p.shown, H, I.kept kk, ⟨_, rfl⟩, q⟩) o5
  cases hp with
  | lst h _ => exact go _ ru
  | tup h _ => exact go _ ru
  | _ => cases o1
theorem caS_repr {K : PySem.W.Frag} : CaS K (rRepr K) kRepr := by
  intro G as F H S ds vs d Q st rs e q
  cases ds with
  | nil => cases e
  | cons a t => cases t with
    | cons b t => cases e
    | nil =>
      have e : ((dpyS S a).bind fun p => if reprOk p = true then some (D.str p.shown) else none) = some d := e
      cases e1 : dpyS S a with
      | none => rw [e1] at e; cases e
      | some p =>
        rw [e1] at e
        have e : (if reprOk p = true then some (D.str p.shown) else none) = some d := e
        split at e
        · rename_i hz
          cases e
          obtain ⟨v, rfl, r⟩ := reps1 rs
          exact ⟨v, p, rfl, dpS_of st e1 r, hz, q as F H _ Ext.refl st .str⟩
        · cases e

/-! ### what a def is worth -/
structure FnG (P : Program) (w : World) (K : PySem.W.Frag) (mg : Str → Option Value) (base : Heap) (T : CXT) (g : Bool) (k : Nat) (f : Addr) (fd : FuncData) (ps : List Str) (sp : Sp) : Prop where
  run : ∀ (A : Around) (outer : List PySem.Env) (s : Shared) (H : Hp) (args : Args) (us : List Value) (vs : List V) (Q : VK) (E : XK),
    Room k A → (g = true → A.guards = some []) → Env0 P w K mg base A outer s H → BindsTo s fd args (ps.zip us) → Vals vs us → vs.length = ps.length → sp vs H Q E →
    codeAny (model P w) A (.call (.ref f) args) (CR T outer P w H s Q E) s
section
variable {P : Program} {w : World} {K : PySem.W.Frag} {mg : Str → Option Value} {base : Heap}
theorem FnG.mono {T : CXT} {g : Bool} {j k : Nat} {f : Addr} {fd : FuncData} {ps : List Str} {sp : Sp} (o : FnG P w K mg base T g j f fd ps sp) (h : j ≤ k) : FnG P w K mg base T g k f fd ps sp :=
  ⟨fun A outer s H args us vs Q E hr => o.run A outer s H args us vs Q E (hr.mono h)⟩
theorem FnG.of {T : CXT} {g : Bool} {x qual : Str} {params : Arguments} {body : List Stmt} {sc : Scope} {dvs : List V} {kws : List (Str × V)} {f : Addr} {fd : FuncData} {N ps : List Str} {k : Nat} {sp : Sp} (fun_ : FunD K x qual params body sc dvs kws f fd) (scp : FnScope N ps sc)
    (bd : ∀ (cdv : Value) (hcd : fd.code = cdv) (A : Around) (outer : List PySem.Env) (s : Shared) (H : Hp) (vs : List V) (Q : VK) (E : XK), Room k (A.deeper (envOfC qual sc s.heap.objs.size f cdv)) → (g = true → A.guards = some []) → vs.length = ps.length → sp vs H Q E →
      ∃ t, PSs (cxOf T P w K mg base N qual sc f cdv A outer s H E) body t ∧ t { nx := fun _ H' => Q .non H', rt := Q } (start N vs) H) : FnG P w K mg base T g (k + 1) f fd ps sp := by
  obtain ⟨oc, od, dV, kV, doc, pm, an, cdv, ct, osl, rfl, lk, code, _, _⟩ := fun_.ex
  refine ⟨fun A outer s H args us vs Q E room gds en bnd rv len want => ?_⟩
  have inK : K.In s.heap := en.mod.kin.keeps fun b o e => (en.bs b o e).1
  have noLim : s.heap.NoLimit := en.mod.nolimit.keeps fun b o e => (en.bs b o e).1
  refine codeAny_call_function room.depth (inK _ _ lk) rfl scp.co scp.gen rfl (PySem.W.codeRec_of inK code) (bnd _ _ _ _ ?_)
  refine wpAny_newFunctionEnv_cells scp.kind ?_ fun env ee s1 inC => ?_
  · rintro ⟨n, v⟩ hy
    exact (scp.par n (List.of_mem_zip hy).1).imp (fun q => q) fun q => ⟨q, PySem.W.cellsFrom_some _ _ _ (.inl q)⟩
  subst ee
  refine ⟨noLim.keeps inC.toInCall.keep, codeAny_func ?_⟩
  obtain ⟨t, ht, hq⟩ := bd cdv rfl A outer s H vs Q E (room.deeper _) gds len want
  have I := inv_start (CX := T) (E := E) scp room.hd en len rv inC
  refine wpAny_mono (ht.run [] s1 (start N vs) H _ I hq) (fun fl s' hs => ?_) fun _ _ z => z
  cases fl with
  | brk => obtain ⟨_, _, _, z⟩ := hs; exact z.elim
  | cont => obtain ⟨_, _, _, z⟩ := hs; exact z.elim
  | ret u => obtain ⟨v, _, H', J, r1, z⟩ := hs; exact ⟨v, H', J.os, J.bare, J.base, J.hok, r1, z⟩
  | next => obtain ⟨_, H', J, z⟩ := hs; exact ⟨V.non, H', J.os, J.bare, J.base, J.hok, rfl, z⟩
end
/-- the promise of a mirror -/
def spM (K : PySem.W.Frag) (m : List D → M D) : Sp := fun vs H Q E => ∃ G as F S ds, St0 K G as F H S ∧ Reps K as F ds vs ∧
  fin K G as F (m ds S) (eok K Q) (fun x as' F' H' _ => ∀ c dd, XRep K as' F' H' x c dd → E c dd H')
/-- the def that the module's name x holds -/
structure FnM (P : Program) (w : World) (K : PySem.W.Frag) (mg : Str → Option Value) (base : Heap) (g : Bool) (k : Nat) (x : Str) (n : Nat) (m : List D → M D) : Prop where
  ex : ∃ f fd ps, ps.length = n ∧ mg x = some (.ref f) ∧ PySem.W.keepIn K (.ref f) = true ∧ Binds K fd ps [] ∧ FnG P w K mg base (L2.CX P w) g k f fd ps (spM K m)
theorem FnM.mono {P : Program} {w : World} {K : PySem.W.Frag} {mg : Str → Option Value} {base : Heap} {g : Bool} {j k : Nat} {x : Str} {n : Nat} {m : List D → M D} (o : FnM P w K mg base g j x n m) (h : j ≤ k) : FnM P w K mg base g k x n m :=
  let ⟨f, fd, ps, a, b, c, d, e⟩ := o.ex
  ⟨f, fd, ps, a, b, c, d, e.mono h⟩
abbrev ew (W : WX) : XW := fun σ => WE W σ
/-- f(e, ..) -/
def eCall (n : Nat) (m : List D → M D) (g : Env → M (List D)) : Env → M D := fun ρ => mbind (g ρ) fun ds => if ds.length = n then m ds else mstk
def tGo (sp : Sp) (n : Nat) (E : L2.St → XK) (t : TA) : TE := fun σ H Q => t σ H fun vs H1 => vs.length = n ∧ sp vs H1 Q (E σ)
section
variable {X : Cx} {T : CXT} {gb : Bool} {k : Nat} {f : Addr} {fd : FuncData} {ps : List Str} {sp : Sp} {E : L2.St → XK} {x : Str} {p pos : Pos} {e : Expr} {es : List Expr} {t : TA}
theorem run_go {pins : List (Addr × Obj)} {σ : L2.St} {H : Hp} {s : Shared} {Q : VK} {us : List Value} {vs : List V} (o : FnG X.prog X.w X.K X.mg X.base T gb k f fd ps sp) (hr : Room k X.A) (hgd : gb = true → X.A.guards = some []) (hb : Binds X.K fd ps []) (hx : PassesAt T X σ (E σ))
    (I : Inv X pins σ H s) (r : Vals vs us) (hl : vs.length = ps.length) (h : sp vs H Q (E σ)) : wpAny (model X.prog X.w) X.A (call (.ref f) us) (EP X pins σ Q) X.xe s := by
  have b := hb s us I.kIn (by rw [List.append_nil, ← r.length]; exact hl)
  rw [List.append_nil] at b
  refine wpAny_call (codeAny_mono (o.run X.A X.stack s H ⟨us, []⟩ us vs Q (E σ) hr hgd I.env0 b r hl h) ?_)
  intro res s' z
  match res, z with
  | .error err, z => exact hx pins H s err s' I z
  | .ok (.ret u), z => exact I.after z
theorem pe_go (o : FnG X.prog X.w X.K X.mg X.base T gb k f fd ps sp) (hr : Room k X.A) (hgd : gb = true → X.A.guards = some []) (hg : Gl X x) (hm : X.mg x = some (.ref f)) (hk : PySem.W.keepIn X.K (.ref f) = true) (hb : Binds X.K fd ps []) (hx : ∀ σ, PassesAt T X σ (E σ)) (ha : PA X (e :: es) t)
    (hdb : (x == ("__debug__" : Str)) = false := by decide) (he : starEach (e :: es) X.env = (false, eval e X.env) :: starEach es X.env := by rfl) (hpl : (backTo pos (starEach es X.env)).any (·.1) = false := by rfl) : PE X (.Call (.Name x p) (e :: es) [] pos) (tGo sp ps.length E t) :=
  ⟨fun pins s σ H Q I h => wpAny_Call_Name_kw (ld_glob I hg hm (PySem.W.callWith_K (h₀ := X.base) I.ok.mod.kin hk (thn (ha.run pos pins s σ H _ I h) fun us s1 ⟨vs, H1, I1, r, hl, q⟩ => ⟨I1.kIn, run_go o hr hgd hb (hx σ) I1 r hl q⟩) he hpl) hdb)⟩
theorem pp_call {W : WX} {n : Nat} {m : List D → M D} {g : Env → M (List D)} (o : FnM X.prog X.w X.K X.mg X.base gb k x n m) (hr : Room k X.A) (hgd : gb = true → X.A.guards = some []) (hg : Gl X x) (tk : Takes X W) (hT : True) (ha : PQ X (ew W) (e :: es) g)
    (hdb : (x == ("__debug__" : Str)) = false := by decide) (he : starEach (e :: es) X.env = (false, eval e X.env) :: starEach es X.env := by rfl) (hpl : (backTo pos (starEach es X.env)).any (·.1) = false := by rfl) : PP X (ew W) (.Call (.Name x p) (e :: es) [] pos) (eCall n m g) := by
  obtain ⟨f, fd, ps, rfl, hm, hk, hb, o⟩ := o.ex
  refine pe_weak (pe_go (E := ew W) o hr hgd hg hm hk hb (fun σ => passAt tk σ) ha hdb he hpl) fun σ H Q q => ?_
  obtain ⟨G, as, F, S, ρ, st, sl, q⟩ := rd_oneA (k := fun _ ds => if ds.length = ps.length then m ds else mstk) (ok := fun _ => eok X.K Q) q
  refine ⟨G, as, F, S, ρ, st, sl, q.imp (fun a as1 F1 H1 S1 x1 s1 h1 v r => ?_) fun _ _ _ _ _ _ _ h => h⟩
  obtain ⟨G, as, F, S, ρ, ds, st, sl, rs, q⟩ := h1 v r
  have q : fin X.K G as F ((if ds.length = ps.length then m ds else mstk) S) (eok X.K Q) (eer X.K (ew W) σ) := q
  split at q
  · rename_i hz
    exact ⟨by rw [← rs.length]; exact hz, G, as, F, S, ds, st, rs, q⟩
  · exact q.elim
end

/-! ### statements -/
inductive Flow where
  | nx (ρ : Env) (S : Sto) | rt (d : D) (S : Sto) | bk (ρ : Env) (S : Sto) | ct (ρ : Env) (S : Sto) | er (x : Xc) (ρ : Env) (S : Sto) | stuck
abbrev Blk := Env → Sto → Flow
def fls (K : PySem.W.Frag) (G : Hp) (as : List Addr) (F : Hp) (r : Flow) (Dn : Ends) (EW : XW) : Prop := match r with
  | .nx ρ S => ∀ as' F' H' σ', Ext as as' F F' → St0 K G as' F' H' S → Slots K as' F' ρ σ' → Dn.nx σ' H'
  | .bk ρ S => ∀ as' F' H' σ', Ext as as' F F' → St0 K G as' F' H' S → Slots K as' F' ρ σ' → Dn.bk σ' H'
  | .ct ρ S => ∀ as' F' H' σ', Ext as as' F F' → St0 K G as' F' H' S → Slots K as' F' ρ σ' → Dn.ct σ' H'
  | .rt d S => ∀ as' F' H' v, Ext as as' F F' → St0 K G as' F' H' S → Rep K as' F' d v → Dn.rt v H'
  | .er x ρ S => ∀ as' F' H' σ' c dd, Ext as as' F F' → St0 K G as' F' H' S → Slots K as' F' ρ σ' → XRep K as' F' H' x c dd → EW σ' c dd H'
  | .stuck => False
def rdS (K : PySem.W.Frag) (EW : XW) (g : Blk) : TS := fun Dn σ H => ∃ G as F S ρ, St0 K G as F H S ∧ Slots K as F ρ σ ∧ fls K G as F (g ρ S) Dn EW
abbrev SS (X : Cx) (EW : XW) (st : Stmt) (g : Blk) : Prop := PS X st (rdS X.K EW g)
abbrev SSs (X : Cx) (EW : XW) (st : List Stmt) (g : Blk) : Prop := PSs X st (rdS X.K EW g)
theorem ps_weak {X : Cx} {st : Stmt} {t t' : TS} (h : PS X st t) (w : ∀ Dn σ H, t' Dn σ H → t Dn σ H) : PS X st t' := ⟨fun pins s σ H Dn I q => h.run pins s σ H Dn I (w Dn σ H q)⟩
theorem pss_weak {X : Cx} {st : List Stmt} {t t' : TS} (h : PSs X st t) (w : ∀ Dn σ H, t' Dn σ H → t Dn σ H) : PSs X st t' := ⟨fun pins s σ H Dn I q => h.run pins s σ H Dn I (w Dn σ H q)⟩
theorem fls.mono {K : PySem.W.Frag} {G : Hp} {as as1 : List Addr} {F F1 : Hp} {r : Flow} {Dn : Ends} {EW : XW} (h : fls K G as F r Dn EW) (x : Ext as as1 F F1) : fls K G as1 F1 r Dn EW := by
  cases r with
  | nx ρ S => exact fun as' F' H' σ' y => h as' F' H' σ' (x.trans y)
  | bk ρ S => exact fun as' F' H' σ' y => h as' F' H' σ' (x.trans y)
  | ct ρ S => exact fun as' F' H' σ' y => h as' F' H' σ' (x.trans y)
  | rt d S => exact fun as' F' H' σ' y => h as' F' H' σ' (x.trans y)
  | er d ρ S => exact fun as' F' H' σ' c dd y => h as' F' H' σ' c dd (x.trans y)
  | stuck => exact h
/-- an expression, then what is done with its value -/
def sE {α : Type} (f : Env → M α) (k : Env → α → Sto → Flow) : Blk := fun ρ S => match f ρ S with
  | .ok a S' => k ρ a S'
  | .err x S' => .er x ρ S'
  | .stuck => .stuck
theorem fls.ex {α : Type} {K : PySem.W.Frag} {G : Hp} {as : List Addr} {F : Hp} {f : Env → M α} {k : Env → α → Sto → Flow} {ρ : Env} {S : Sto} {σ : L2.St} {Dn : Ends} {EW : XW} (sl : Slots K as F ρ σ) (h : fls K G as F (sE f k ρ S) Dn EW) :
    fin K G as F (f ρ S) (fun a as' F' H' S' => fls K G as' F' (k ρ a S') Dn EW) (eer K EW σ) := by
  unfold sE at h
  cases e : f ρ S with
  | ok a S' => rw [e] at h; exact fun as' F' H' x s => fls.mono h x
  | err x S' => rw [e] at h; exact fun as' F' H' x s c dd xr => h as' F' H' σ c dd x s (sl.mono x) xr
  | stuck => rw [e] at h; exact h
/-- what stands behind an expression of a statement -/
theorem rd_st {K : PySem.W.Frag} {EW : XW} {f : Env → M D} {k : Env → D → Sto → Flow} {σ : L2.St} {H : Hp} {Dn : Ends} (h : rdS K EW (sE f k) Dn σ H) :
    rdE K EW f σ H fun x H1 => ∃ G as F S ρ a, St0 K G as F H1 S ∧ Slots K as F ρ σ ∧ Rep K as F a x ∧ fls K G as F (k ρ a S) Dn EW := by
  obtain ⟨G, as, F, S, ρ, st, sl, q⟩ := h
  exact ⟨G, as, F, S, ρ, st, sl, (fls.ex sl q).imp (fun a as' F' H' S' x s h v r => ⟨G, as', F', S', ρ, a, s, sl.mono x, r, h⟩) fun _ _ _ _ _ _ _ h => h⟩
theorem rd_stB {K : PySem.W.Frag} {EW : XW} {f : Env → M Bool} {k : Env → Bool → Sto → Flow} {σ : L2.St} {H : Hp} {Dn : Ends} (h : rdS K EW (sE f k) Dn σ H) :
    rdT K EW f σ H fun b H1 => ∃ G as F S ρ, St0 K G as F H1 S ∧ Slots K as F ρ σ ∧ fls K G as F (k ρ b S) Dn EW := by
  obtain ⟨G, as, F, S, ρ, st, sl, q⟩ := h
  exact ⟨G, as, F, S, ρ, st, sl, (fls.ex sl q).imp (fun a as' F' H' S' x s h => ⟨G, as', F', S', ρ, s, sl.mono x, h⟩) fun _ _ _ _ _ _ _ h => h⟩
theorem rd_stA {K : PySem.W.Frag} {EW : XW} {f : Env → M (List D)} {k : Env → List D → Sto → Flow} {σ : L2.St} {H : Hp} {Dn : Ends} (h : rdS K EW (sE f k) Dn σ H) :
    rdA K EW f σ H fun x H1 => ∃ G as F S ρ a, St0 K G as F H1 S ∧ Slots K as F ρ σ ∧ Reps K as F a x ∧ fls K G as F (k ρ a S) Dn EW := by
  obtain ⟨G, as, F, S, ρ, st, sl, q⟩ := h
  exact ⟨G, as, F, S, ρ, st, sl, (fls.ex sl q).imp (fun a as' F' H' S' x s h v r => ⟨G, as', F', S', ρ, a, s, sl.mono x, r, h⟩) fun _ _ _ _ _ _ _ h => h⟩
def bNil : Blk := fun ρ S => .nx ρ S
def bSeq (g h : Blk) : Blk := fun ρ S => match g ρ S with
  | .nx ρ' S' => h ρ' S'
  | r => r
def bIf (t : Env → M Bool) (g h : Blk) : Blk := sE t fun ρ c S => if c = true then g ρ S else h ρ S
def bSet (i : Nat) (f : Env → M D) : Blk := sE f fun ρ d S => .nx (ρ.set i (some d)) S
def bRet (f : Env → M D) : Blk := sE f fun _ d S => .rt d S
def bExp (f : Env → M D) : Blk := sE f fun ρ _ S => .nx ρ S
def bRetN : Blk := fun _ S => .rt .non S
def bBrk : Blk := fun ρ S => .bk ρ S
def bCnt : Blk := fun ρ S => .ct ρ S
section
variable {X : Cx} {EW : XW} {st : Stmt} {rest : List Stmt} {g h : Blk} {e : Expr} {f : Env → M D} {pos : Pos}
theorem ss_nil : SSs X EW [] bNil := pss_weak pss_nil fun Dn σ H ⟨G, as, F, S, ρ, st, sl, q⟩ => q as F H σ Ext.refl st sl
theorem ss_cons (h1 : SS X EW st g) (h2 : SSs X EW rest h) : SSs X EW (st :: rest) (bSeq g h) := pss_weak (pss_cons h1 h2) fun Dn σ H ⟨G, as, F, S, ρ, s0, sl, q⟩ => by
  refine ⟨G, as, F, S, ρ, s0, sl, ?_⟩
  have q : fls X.K G as F (match g ρ S with
    | .nx ρ' S' => h ρ' S'
    | r => r) Dn EW := q
  cases e : g ρ S with
  | nx ρ' S' => rw [e] at q; exact fun as' F' H' σ' x s sl' => ⟨G, as', F', S', ρ', s, sl', fls.mono q x⟩
  | bk ρ' S' => rw [e] at q; exact q
  | ct ρ' S' => rw [e] at q; exact q
  | rt d S' => rw [e] at q; exact q
  | er x ρ' S' => rw [e] at q; exact q
  | stuck => rw [e] at q; exact q
theorem ss_one (h1 : SS X EW st g) : SSs X EW [st] g := pss_one h1
theorem s_pass : SS X EW (.Pass pos) bNil := ps_weak ps_pass fun Dn σ H ⟨G, as, F, S, ρ, st, sl, q⟩ => q as F H σ Ext.refl st sl
theorem s_brk : SS X EW (.Break pos) bBrk := ps_weak ps_break fun Dn σ H ⟨G, as, F, S, ρ, st, sl, q⟩ => q as F H σ Ext.refl st sl
theorem s_cnt : SS X EW (.Continue pos) bCnt := ps_weak ps_continue fun Dn σ H ⟨G, as, F, S, ρ, st, sl, q⟩ => q as F H σ Ext.refl st sl
theorem s_retN : SS X EW (.Return none pos) bRetN := ps_weak ps_retN fun Dn σ H ⟨G, as, F, S, ρ, st, sl, q⟩ => q as F H _ Ext.refl st .non
theorem s_ret (he : PP X EW e f) : SS X EW (.Return (some e) pos) (bRet f) := ps_weak (ps_ret he) fun Dn σ H q => by
  obtain ⟨G, as, F, S, ρ, s0, sl, q⟩ := rd_st q
  refine ⟨G, as, F, S, ρ, s0, sl, q.imp (fun a as1 F1 H1 S1 x1 s1 h1 v r => ?_) fun _ _ _ _ _ _ _ h => h⟩
  obtain ⟨G, as, F, S, ρ, a, s0, sl, ra, q⟩ := h1 v r
  exact q as F _ v Ext.refl s0 ra
theorem s_exp (he : PP X EW e f) (hs : swapsWith e none pos.line X.env = pure false := by rfl) : SS X EW (.Expr e pos) (bExp f) := ps_weak (ps_expr he hs) fun Dn σ H q => by
  obtain ⟨G, as, F, S, ρ, s0, sl, q⟩ := rd_st q
  refine ⟨G, as, F, S, ρ, s0, sl, q.imp (fun a as1 F1 H1 S1 x1 s1 h1 v r => ?_) fun _ _ _ _ _ _ _ h => h⟩
  obtain ⟨G, as, F, S, ρ, a, s0, sl, ra, q⟩ := h1 v r
  exact q as F _ σ Ext.refl s0 sl
theorem s_set (i : Nat) {x : Str} {pos' : Pos} (hN : X.N.Nodup) (he : PP X EW e f) (hi : X.N[i]? = some x := by rfl) (hx : Loc X.env.scope x := by first | exact Or.inl rfl | exact Or.inr rfl) (hs : swapsWith e (some (.Name x pos')) pos.line X.env = pure false := by rfl)
    (hf : X.fn x = true ∨ X.env.scope.names.lookup x = some .local := by first | exact .inl rfl | exact .inr rfl) : SS X EW (.Assign [.Name x pos'] e pos) (bSet i f) := ps_weak (ps_set hN hi hx he hs hf) fun Dn σ H q => by
  obtain ⟨G, as, F, S, ρ, s0, sl, q⟩ := rd_st q
  refine ⟨G, as, F, S, ρ, s0, sl, q.imp (fun a as1 F1 H1 S1 x1 s1 h1 v r => ?_) fun _ _ _ _ _ _ _ h => h⟩
  obtain ⟨G, as, F, S, ρ, a, s0, sl, ra, q⟩ := h1 v r
  exact q as F _ _ Ext.refl s0 (sl.set i ra)
theorem s_if {c : Expr} {a b : List Stmt} {t : Env → M Bool} (hc : PB X EW c t) (ha : SSs X EW a g) (hb : SSs X EW b h) : SS X EW (.If c a b pos) (bIf t g h) := ps_weak (ps_if hc ha hb) fun Dn σ H q => by
  obtain ⟨G, as, F, S, ρ, s0, sl, q⟩ := rd_stB q
  refine ⟨G, as, F, S, ρ, s0, sl, q.imp (fun c as1 F1 H1 S1 x1 s1 h1 => ?_) fun _ _ _ _ _ _ _ h => h⟩
  obtain ⟨G, as, F, S, ρ, s0, sl, q⟩ := h1
  cases c with
  | true => exact ⟨G, as, F, S, ρ, s0, sl, q⟩
  | false => exact ⟨G, as, F, S, ρ, s0, sl, q⟩
end
/-- x, y = e, e' -/
def bPar (i j : Nat) (g : Env → M (List D)) : Blk := sE g fun ρ ds S => match ds with
  | [a, b] => .nx ((ρ.set i (some a)).set j (some b)) S
  | _ => .stuck
def bPar3 (i j l : Nat) (g : Env → M (List D)) : Blk := sE g fun ρ ds S => match ds with
  | [a, b, c] => .nx (((ρ.set i (some a)).set j (some b)).set l (some c)) S
  | _ => .stuck
section
variable {X : Cx} {EW : XW} {g : Env → M (List D)} {pos : Pos}
theorem s_par (i j : Nat) {x y : Str} {a b : Expr} {px py pt : Pos} {kt k2 pt2} (hN : X.N.Nodup) (ha : PQ X EW [a, b] g) (hw : swappedStores [.Tuple [.Name x px, .Name y py] kt pt] (.Tuple [a, b] k2 pt2) X.env = pure (some [x, y])) (hc : X.calm = true := by rfl) (hi : X.N[i]? = some x := by rfl) (hj : X.N[j]? = some y := by rfl) (hij : i ≠ j := by decide)
    (hx : X.env.scope.names.lookup x = some .local := by rfl) (hy : X.env.scope.names.lookup y = some .local := by rfl)
    (hs : swapsWithSole [.Tuple [.Name x px, .Name y py] kt pt] (.Tuple [a, b] k2 pt2) pos.line X.env = pure false := by rfl) :
    SS X EW (.Assign [.Tuple [.Name x px, .Name y py] kt pt] (.Tuple [a, b] k2 pt2) pos) (bPar i j g) := ps_weak (ps_par hc hN hi hj hij hx hy ha hw hs) fun Dn σ H q => by
  obtain ⟨G, as, F, S, ρ, s0, sl, q⟩ := rd_stA q
  refine ⟨G, as, F, S, ρ, s0, sl, q.imp (fun a as1 F1 H1 S1 x1 s1 h1 v r => ?_) fun _ _ _ _ _ _ _ h => h⟩
  obtain ⟨G, as, F, S, ρ, ds, s0, sl, rs, q⟩ := h1 v r
  match ds, q with
  | [d, e], q =>
    obtain ⟨u, w', rfl, r1, r2⟩ := reps2 rs
    exact ⟨u, w', rfl, q as F _ _ Ext.refl s0 ((sl.set i r1).set j r2)⟩
  | [], q => exact q.elim
  | [_], q => exact q.elim
  | _ :: _ :: _ :: _, q => exact q.elim
end
end M2

/-! M2f: targets, what is walked, for, while, comprehensions -/
namespace M2
open PySem PySem.Spec PyProof.Rows L2
open RZ (ItzT iZipA pi_zipA)

/-! ### targets -/
inductive Tg where
  | nm (i : Nat) | tp (l : List Tg)
mutual
def Tg.slots : Tg → List Nat
  | .nm i => [i]
  | .tp l => slotsL l
def slotsL : List Tg → List Nat
  | [] => []
  | t :: l => t.slots ++ slotsL l
end
mutual
def Tg.run : Tg → D → Env → Option Env
  | .nm i, d, ρ => some (ρ.set i (some d))
  | .tp l, d, ρ => match d with
    | .tup ds => if ds.length = l.length then runL l ds ρ else none
    | _ => none
def runL : List Tg → List D → Env → Option Env
  | [], [], ρ => some ρ
  | t :: l, d :: ds, ρ => match t.run d ρ with
    | some ρ' => runL l ds ρ'
    | none => none
  | _, _, _ => none
end
/-- alike but for the slots l -/
structure Upto (l : List Nat) (σ σ' : L2.St) : Prop where
  len : σ'.length = σ.length
  off : ∀ j, j ∉ l → σ'[j]? = σ[j]?
theorem Upto.refl {l : List Nat} {σ : L2.St} : Upto l σ σ := ⟨rfl, fun _ _ => rfl⟩
theorem Upto.trans {l l' : List Nat} {a b c : L2.St} (h : Upto l a b) (h' : Upto l' b c) : Upto (l ++ l') a c :=
  ⟨h'.len.trans h.len, fun j hj => (h'.off j fun z => hj (List.mem_append_right _ z)).trans (h.off j fun z => hj (List.mem_append_left _ z))⟩
theorem wipe_get (σ : L2.St) (j : Nat) : ∀ vs : List Nat, (L2.wipe σ vs)[j]? = if j ∈ vs ∧ j < σ.length then some none else σ[j]?
  | [] => by simp [L2.wipe]
  | v :: vs => by
    show ((L2.wipe σ vs).set v none)[j]? = _
    by_cases hv : v = j
    · subst hv
      by_cases hl : v < σ.length
      · rw [List.getElem?_set_self (by rw [L2.wipe_length]; exact hl), if_pos ⟨List.mem_cons_self, hl⟩]
      · rw [List.getElem?_eq_none (by rw [List.length_set, L2.wipe_length]; omega), if_neg (fun z => hl z.2), List.getElem?_eq_none (by omega)]
    · rw [List.getElem?_set_ne hv, wipe_get σ j vs]
      have : (j ∈ v :: vs) ↔ j ∈ vs := by
        rw [List.mem_cons]
        exact ⟨fun z => z.resolve_left fun e => hv e.symm, .inr⟩
      simp only [this]
theorem Upto.wipe {l vs : List Nat} {σ σ' : L2.St} (h : Upto l σ σ') (hl : ∀ i ∈ l, i ∈ vs) : L2.wipe σ' vs = L2.wipe σ vs := by
  apply List.ext_getElem?
  intro j
  rw [wipe_get, wipe_get, h.len]
  by_cases hj : j ∈ vs ∧ j < σ.length
  · rw [if_pos hj, if_pos hj]
  · rw [if_neg hj, if_neg hj]
    by_cases hm : j ∈ l
    · have : ¬ j < σ.length := fun z => hj ⟨hl j hm, z⟩
      rw [List.getElem?_eq_none (by rw [h.len]; omega), List.getElem?_eq_none (by omega)]
    · exact h.off j hm
theorem wipe_twice (σ : L2.St) (vs : List Nat) : L2.wipe (L2.wipe σ vs) vs = L2.wipe σ vs := by
  apply List.ext_getElem?
  intro j
  rw [wipe_get, L2.wipe_length]
  by_cases hj : j ∈ vs ∧ j < σ.length
  · rw [if_pos hj, wipe_get, if_pos hj]
  · rw [if_neg hj]
def rdG (K : PySem.W.Frag) (t : Tg) : TG := fun v σ H Q => ∃ G as F S ρ d ρ', St0 K G as F H S ∧ Slots K as F ρ σ ∧ Rep K as F d v ∧ t.run d ρ = some ρ' ∧ ∀ σ', Slots K as F ρ' σ' → Upto t.slots σ σ' → Q σ' H
def rdGs (K : PySem.W.Frag) (t : List Tg) : TGs := fun v σ H Q => ∃ G as F S ρ d ρ', St0 K G as F H S ∧ Slots K as F ρ σ ∧ Reps K as F d v ∧ runL t d ρ = some ρ' ∧ ∀ σ', Slots K as F ρ' σ' → Upto (slotsL t) σ σ' → Q σ' H
theorem pg_weak {X : Cx} {e : Expr} {t t' : TG} (h : PG X e t) (w : ∀ v σ H Q, t' v σ H Q → t v σ H Q) : PG X e t' := ⟨fun pins s σ H v u Q I r q => h.run pins s σ H v u Q I r (w v σ H Q q)⟩
theorem pgs_weak {X : Cx} {e : List Expr} {t t' : TGs} (h : PGs X e t) (w : ∀ v σ H Q, t' v σ H Q → t v σ H Q) : PGs X e t' := ⟨fun pins s σ H v u Q I r q => h.run pins s σ H v u Q I r (w v σ H Q q)⟩
section
variable {X : Cx} {e : Expr} {es : List Expr} {t : Tg} {ts : List Tg} {pos : Pos}
theorem g_nm (i : Nat) {x : Str} (hN : X.N.Nodup) (hi : X.N[i]? = some x := by rfl) (hx : Loc X.env.scope x := by first | exact Or.inl rfl | exact Or.inr rfl) (hf : X.fn x = true ∨ X.env.scope.names.lookup x = some .local := by first | exact .inl rfl | exact .inr rfl) : PG X (.Name x pos) (rdG X.K (.nm i)) :=
  pg_weak (pg_name hN hi hx hf) fun v σ H Q ⟨G, as, F, S, ρ, d, ρ', st, sl, r, e, q⟩ => by
    cases e
    exact q _ (sl.set i r) ⟨by simp, fun j hj => by rw [List.getElem?_set_ne]; exact fun z => hj (by rw [← z]; exact List.mem_singleton.mpr rfl)⟩
theorem gs_nil : PGs X [] (rdGs X.K []) := pgs_weak pgs_nil fun v σ H Q ⟨G, as, F, S, ρ, d, ρ', st, sl, r, e, q⟩ => by
  cases r with
  | nil => cases e; exact ⟨rfl, q σ sl .refl⟩
  | cons _ _ => cases e
theorem gs_cons (h1 : PG X e (rdG X.K t)) (h2 : PGs X es (rdGs X.K ts)) (hs : (assignEach (e :: es) X.env).map (·.2) = assign e X.env :: (assignEach es X.env).map (·.2) := by rfl) : PGs X (e :: es) (rdGs X.K (t :: ts)) :=
  pgs_weak (pgs_cons h1 h2 hs) fun v σ H Q ⟨G, as, F, S, ρ, d, ρ', st, sl, r, e, q⟩ => by
    cases r with
    | nil => cases e
    | @cons d v ds vs r rs =>
      have e : (match t.run d ρ with
        | some ρ' => runL ts ds ρ'
        | none => none) = some ρ' := e
      cases e1 : t.run d ρ with
      | none => rw [e1] at e; cases e
      | some ρ1 =>
        rw [e1] at e
        exact ⟨v, vs, rfl, G, as, F, S, ρ, d, ρ1, st, sl, r, e1, fun σ1 sl1 u1 => ⟨G, as, F, S, ρ1, ds, ρ', st, sl1, rs, e, fun σ2 sl2 u2 => q σ2 sl2 (u1.trans u2)⟩⟩
theorem g_tp {k : Nat} (h : PGs X es (rdGs X.K ts)) (hc : X.calm = true := by rfl) (hn : (assignEach es X.env).length = ts.length := by rfl) (hst : (assignEach es X.env).findIdx? (·.1) = none := by rfl) : PG X (.Tuple es k pos) (rdG X.K (.tp ts)) :=
  pg_weak (pg_tup hc h hn hst) fun v σ H Q ⟨G, as, F, S, ρ, d, ρ', st, sl, r, e, q⟩ => by
    cases r with
    | @tup a vs ds hT rs =>
      have e : (if ds.length = ts.length then runL ts ds ρ else none) = some ρ' := e
      split at e
      · rename_i hl
        exact ⟨a, vs, rfl, same_seqT st.sub hT.sq, rs.length ▸ hl, G, as, F, S, ρ, ds, ρ', st, sl, rs, e, q⟩
      · cases e
    | _ => cases e
end
/-- target = value -/
def bAsg (t : Tg) (f : Env → M D) : Blk := sE f fun ρ d S => match t.run d ρ with
  | some ρ' => .nx ρ' S
  | none => .stuck
theorem s_asg {X : Cx} {EW : XW} {tg e : Expr} {t : Tg} {f : Env → M D} {pos : Pos} (he : PP X EW e f) (hg : PG X tg (rdG X.K t)) (hs : swapsWithSole [tg] e pos.line X.env = pure false := by rfl) (hw : swappedStores [tg] e X.env = pure none := by rfl)
    (h1 : (assignEach [tg] X.env).map (·.2) = [assign tg X.env] := by rfl) : SS X EW (.Assign [tg] e pos) (bAsg t f) := ps_weak (ps_asg he hg hs hw h1) fun Dn σ H q => by
  obtain ⟨G, as, F, S, ρ, s0, sl, q⟩ := rd_st q
  refine ⟨G, as, F, S, ρ, s0, sl, q.imp (fun a as1 F1 H1 S1 x1 s1 h1 v r => ?_) fun _ _ _ _ _ _ _ h => h⟩
  obtain ⟨G, as, F, S, ρ, a, s0, sl, ra, q⟩ := h1 v r
  cases e : t.run a ρ with
  | none => rw [e] at q; exact q.elim
  | some ρ' => rw [e] at q; exact ⟨G, as, F, S, ρ, a, ρ', s0, sl, ra, e, fun σ' sl' _ => q as F _ σ' Ext.refl s0 sl'⟩

/-! ### what is walked -/
abbrev Src := List (Nat × List D)
def srcsOk (c : Src) (S : Sto) : Prop := ∀ p ∈ c, S[p.1]? = some (.lst p.2)
open Classical in
noncomputable def gd {α : Type} (c : Src) (S : Sto) (a b : α) : α := match c with
  | [] => a
  | p :: r => if srcsOk (p :: r) S then a else b
theorem gd_nil {α : Type} {S : Sto} {a b : α} : gd [] S a b = a := rfl
theorem gd_pos {α : Type} {c : Src} {S : Sto} {a b : α} (h : srcsOk c S) : gd c S a b = a := by
  cases c with
  | nil => rfl
  | cons p r => exact if_pos h
theorem gd_cases {α : Type} {c : Src} {S : Sto} {a b : α} (P : α → Prop) (h : P (gd c S a b)) (hb : ¬ P b) : srcsOk c S ∧ P a := by
  cases c with
  | nil => exact ⟨fun _ z => (nomatch z), h⟩
  | cons p r =>
    by_cases hc : srcsOk (p :: r) S
    · rw [gd_pos hc] at h; exact ⟨hc, h⟩
    · have e : gd (p :: r) S a b = b := if_neg hc
      rw [e] at h; exact absurd h hb
/-- an iterator that gives ds, while the changeable sources stand -/
def IterOk (K : PySem.W.Frag) (J : It) (ds : List D) (c : Src) (as : List Addr) (F : Hp) : Prop := ∀ G' as' F' H' S' i, Ext as as' F F' → St0 K G' as' F' H' S' → srcsOk c S' →
  (∀ d, ds[i]? = some d → J.go i H' ∧ ∀ x H2, J.yld i H' x H2 → ∃ F2, Ext as' as' F' F2 ∧ St0 K G' as' F2 H2 S' ∧ Rep K as' F2 d x) ∧ (ds.length ≤ i → J.stop i H')
def rdI (K : PySem.W.Frag) (EW : XW) (f : Env → M (List D × Src)) : TI := fun σ H R => ∃ G as F S ρ, St0 K G as F H S ∧ Slots K as F ρ σ ∧ fin K G as F (f ρ S) (fun r as' F' H' _ => ∀ J, IterOk K J r.1 r.2 as' F' → R J H') (eer K EW σ)
abbrev PIt (X : Cx) (EW : XW) (tg iter : Expr) (f : Env → M (List D × Src)) : Prop := PI X tg iter (rdI X.K EW f)
theorem pi_weak {X : Cx} {tg e : Expr} {t t' : TI} (h : PI X tg e t) (w : ∀ σ H R, t' σ H R → t σ H R) : PI X tg e t' := ⟨fun pins s σ H R I q => h.run pins s σ H R I (w σ H R q)⟩
theorem pi_or {X : Cx} {tg e : Expr} {t t' : TI} (h : PI X tg e t) (h' : PI X tg e t') : PI X tg e (fun σ H R => t σ H R ∨ t' σ H R) := ⟨fun pins s σ H R I q => q.elim (h.run pins s σ H R I) (h'.run pins s σ H R I)⟩
def srcOf : D → List D → Src
  | .loc n, ds => [(n, ds)]
  | _, _ => []
theorem lstOf_src {S S' : Sto} {d : D} {ds : List D} (h : lstOf S d = some ds) (c : srcsOk (srcOf d ds) S') : lstOf S' d = some ds := by
  cases d with
  | loc n =>
    have e := c (n, ds) (List.mem_singleton.mpr rfl)
    show (match S'[n]? with
      | some (.lst ds) => some ds
      | _ => none) = some ds
    rw [e]
  | lst xs => exact h
  | _ => cases h
theorem iterOk_list {K : PySem.W.Frag} {as : List Addr} {F : Hp} {S : Sto} {d : D} {a : Addr} {ds : List D} (r : Rep K as F d (.ref a)) (h : lstOf S d = some ds) : IterOk K (Itl K a) ds (srcOf d ds) as F := by
  intro G' as' F' H' S' i x st c
  obtain ⟨a', vs, e, hv, rv⟩ := lstOf_ok st (r.mono x) (lstOf_src h c)
  cases e
  refine ⟨fun d' hd => ?_, fun hi => ⟨vs, SqL.of hv, by rw [← rv.length]; exact hi⟩⟩
  obtain ⟨v, e, rv'⟩ := rv.get hd
  refine ⟨⟨vs, v, SqL.of hv, e⟩, fun y H2 hy => ?_⟩
  obtain ⟨rfl, hy⟩ := hy
  have e2 := hy vs (SqL.of hv)
  rw [e] at e2; cases e2
  exact ⟨F', Ext.refl, st, rv'⟩
theorem iterOk_tup {K : PySem.W.Frag} {as : List Addr} {F : Hp} {a : Addr} {ds : List D} (r : Rep K as F (.tup ds) (.ref a)) : IterOk K (Itt K a) ds [] as F := by
  intro G' as' F' H' S' i x st c
  cases r.mono x with
  | @tup _ vs _ hT rv =>
    have hv := same_seqT st.sub hT.sq
    refine ⟨fun d' hd => ?_, fun hi => ⟨vs, hv, by rw [← rv.length]; exact hi⟩⟩
    obtain ⟨v, e, rv'⟩ := rv.get hd
    refine ⟨⟨vs, v, hv, e⟩, fun y H2 hy => ?_⟩
    obtain ⟨rfl, hy⟩ := hy
    have e2 := hy vs hv
    rw [e] at e2; cases e2
    exact ⟨F', Ext.refl, st, rv'⟩
def signs (z : Str) : List D := z.cps.toList.map fun c => .str ⟨#[c]⟩
theorem iterOk_str {K : PySem.W.Frag} {as : List Addr} {F : Hp} {z : Str} : IterOk K (Its z) (signs z) [] as F := by
  intro G' as' F' H' S' i x st c
  refine ⟨fun d' hd => ?_, fun hi => by
    have : (signs z).length = z.cps.size := by simp [signs]
    show z.cps.size ≤ i
    omega⟩
  unfold signs at hd
  rw [List.getElem?_map] at hd
  cases e : z.cps.toList[i]? with
  | none => rw [e] at hd; cases hd
  | some k =>
    rw [e] at hd; cases hd
    have hl := (List.getElem?_eq_some_iff.mp e).1
    refine ⟨by show i < z.cps.size; simpa using hl, fun y H2 hy => ?_⟩
    obtain ⟨rfl, c', hc, rfl⟩ := hy
    have e2 : z.cps[i]? = some k := by rw [← e]; simp
    rw [e2] at hc; cases hc
    exact ⟨F', Ext.refl, st, .str⟩
def rng (lo : Int) (n : Nat) : List D := (List.range n).map fun (i : Nat) => .int (lo + (i : Int))
theorem iterOk_rng {K : PySem.W.Frag} {as : List Addr} {F : Hp} {lo : Int} {n : Nat} : IterOk K (Itr lo n) (rng lo n) [] as F := by
  intro G' as' F' H' S' i x st c
  have hl : (rng lo n).length = n := by simp [rng]
  refine ⟨fun d' hd => ?_, fun hi => by
    show n ≤ i
    omega⟩
  have hi : i < n := hl ▸ (List.getElem?_eq_some_iff.mp hd).1
  unfold rng at hd
  rw [List.getElem?_map, List.getElem?_range hi] at hd
  cases hd
  refine ⟨hi, fun y H2 hy => ?_⟩
  obtain ⟨rfl, rfl⟩ := hy
  exact ⟨F', Ext.refl, st, .int⟩
/-- the items with their numbers -/
def enumD : Nat → List D → List D
  | _, [] => []
  | k, d :: ds => .tup [.int (k : Nat), d] :: enumD (k + 1) ds
theorem enumD_get : ∀ (ds : List D) (k i : Nat), (enumD k ds)[i]? = (ds[i]?).map fun d => .tup [.int ((k + i : Nat) : Int), d]
  | [], k, i => by simp [enumD]
  | d :: ds, k, 0 => by simp [enumD]
  | d :: ds, k, i + 1 => by
    show (enumD (k + 1) ds)[i]? = _
    rw [enumD_get ds (k + 1) i]
    simp only [List.getElem?_cons_succ]
    congr 1
    funext d
    congr 4
    omega
theorem enumD_length : ∀ (ds : List D) (k : Nat), (enumD k ds).length = ds.length
  | [], _ => rfl
  | _ :: ds, k => congrArg (· + 1) (enumD_length ds (k + 1))
theorem iterOk_enum {K : PySem.W.Frag} {as : List Addr} {F : Hp} {S : Sto} {d : D} {a : Addr} {ds : List D} (r : Rep K as F d (.ref a)) (h : lstOf S d = some ds) : IterOk K (Ite K a) (enumD 0 ds) (srcOf d ds) as F := by
  intro G' as' F' H' S' i x st c
  obtain ⟨a', vs, e, hv, rv⟩ := lstOf_ok st (r.mono x) (lstOf_src h c)
  cases e
  refine ⟨fun d' hd => ?_, fun hi => ⟨vs, SqL.of hv, by rw [← rv.length, ← enumD_length ds 0]; exact hi⟩⟩
  rw [enumD_get] at hd
  cases e1 : ds[i]? with
  | none => rw [e1] at hd; cases hd
  | some d1 =>
    rw [e1] at hd; cases hd
    obtain ⟨v, e, rv'⟩ := rv.get e1
    refine ⟨⟨vs, v, SqL.of hv, e⟩, fun y H2 hy => ?_⟩
    obtain ⟨T, y', rfl, hT, rfl, hy⟩ := hy
    have e2 := hy vs (SqL.of hv)
    rw [e] at e2; cases e2
    obtain ⟨s2, x2⟩ := st.new (o := .tup [.int (i : Nat), v]) hT tup_ntb
    refine ⟨_, x2, s2, .tup (.inl upd_same) (.cons ?_ (.cons (rv'.mono x2) .nil))⟩
    rw [Nat.zero_add]
    exact .int
def zipD : List D → List D → List D
  | a :: as, b :: bs => .tup [a, b] :: zipD as bs
  | _, _ => []
theorem zipD_get : ∀ (xs ys : List D) (i : Nat), (zipD xs ys)[i]? = (match xs[i]?, ys[i]? with
  | some a, some b => some (.tup [a, b])
  | _, _ => none)
  | [], ys, i => by simp [zipD]
  | _ :: _, [], i => by
    simp only [zipD, List.getElem?_nil]
    split <;> simp_all
  | a :: as, b :: bs, 0 => by simp [zipD]
  | a :: as, b :: bs, i + 1 => by simpa [zipD] using zipD_get as bs i
theorem zipD_length : ∀ (xs ys : List D), (zipD xs ys).length = min xs.length ys.length
  | [], ys => by simp [zipD]
  | _ :: _, [] => by simp [zipD]
  | a :: as, b :: bs => by simp [zipD, zipD_length as bs]
theorem srcsOk_app {c c' : Src} {S : Sto} (h : srcsOk (c ++ c') S) : srcsOk c S ∧ srcsOk c' S := ⟨fun p hp => h p (List.mem_append_left _ hp), fun p hp => h p (List.mem_append_right _ hp)⟩
theorem iterOk_zip {K : PySem.W.Frag} {as : List Addr} {F : Hp} {S : Sto} {d e : D} {a b : Addr} {xs ys : List D} (r : Rep K as F d (.ref a)) (r' : Rep K as F e (.ref b)) (h : lstOf S d = some xs) (h' : lstOf S e = some ys) :
    IterOk K (Itz K a b) (zipD xs ys) (srcOf d xs ++ srcOf e ys) as F := by
  intro G' as' F' H' S' i x st c
  obtain ⟨c1, c2⟩ := srcsOk_app c
  obtain ⟨a', vs, e1, hv, rv⟩ := lstOf_ok st (r.mono x) (lstOf_src h c1)
  cases e1
  obtain ⟨b', ws, e1, hw, rw'⟩ := lstOf_ok st (r'.mono x) (lstOf_src h' c2)
  cases e1
  refine ⟨fun d' hd => ?_, fun hi => ⟨vs, ws, SqL.of hv, SqL.of hw, by rw [← rv.length, ← rw'.length]; rw [zipD_length] at hi; omega⟩⟩
  rw [zipD_get] at hd
  cases e1 : xs[i]? with
  | none => rw [e1] at hd; cases hd
  | some d1 => cases e2 : ys[i]? with
    | none => rw [e1, e2] at hd; cases hd
    | some d2 =>
      rw [e1, e2] at hd; cases hd
      obtain ⟨v, q1, rv'⟩ := rv.get e1
      obtain ⟨w, q2, rw2⟩ := rw'.get e2
      refine ⟨⟨vs, ws, v, w, SqL.of hv, SqL.of hw, q1, q2⟩, fun y H2 hy => ?_⟩
      obtain ⟨T, y1, y2, rfl, hT, rfl, h1, h2⟩ := hy
      have z1 := h1 vs (SqL.of hv)
      rw [q1] at z1; cases z1
      have z2 := h2 ws (SqL.of hw)
      rw [q2] at z2; cases z2
      obtain ⟨s2, x2⟩ := st.new (o := .tup [v, w]) hT tup_ntb
      exact ⟨_, x2, s2, .tup (.inl upd_same) (.cons (rv'.mono x2) (.cons (rw2.mono x2) .nil))⟩
theorem iterOk_zipT {K : PySem.W.Frag} {as : List Addr} {F : Hp} {a b : Addr} {xs ys : List D} (r : Rep K as F (.tup xs) (.ref a)) (r' : Rep K as F (.tup ys) (.ref b)) :
    IterOk K (ItzT K a b) (zipD xs ys) [] as F := by
  intro G' as' F' H' S' i x st c
  cases r.mono x with
  | @tup _ vs _ hT rv =>
  cases r'.mono x with
  | @tup _ ws _ hT' rw' =>
  have hv := same_seqT st.sub hT.sq
  have hw := same_seqT st.sub hT'.sq
  refine ⟨fun d' hd => ?_, fun hi => ⟨vs, ws, hv, hw, by rw [← rv.length, ← rw'.length]; rw [zipD_length] at hi; omega⟩⟩
  rw [zipD_get] at hd
  cases e1 : xs[i]? with
  | none => rw [e1] at hd; cases hd
  | some d1 => cases e2 : ys[i]? with
    | none => rw [e1, e2] at hd; cases hd
    | some d2 =>
      rw [e1, e2] at hd; cases hd
      obtain ⟨v, q1, rv'⟩ := rv.get e1
      obtain ⟨w, q2, rw2⟩ := rw'.get e2
      refine ⟨⟨vs, ws, v, w, hv, hw, q1, q2⟩, fun y H2 hy => ?_⟩
      obtain ⟨T, y1, y2, rfl, hT, rfl, h1, h2⟩ := hy
      have z1 := h1 vs hv
      rw [q1] at z1; cases z1
      have z2 := h2 ws hw
      rw [q2] at z2; cases z2
      obtain ⟨s2, x2⟩ := st.new (o := .tup [v, w]) hT tup_ntb
      exact ⟨_, x2, s2, .tup (.inl upd_same) (.cons (rv'.mono x2) (.cons (rw2.mono x2) .nil))⟩
/-- a list, a tuple, a text -/
def kSeq (S : Sto) (d : D) : Option (List D × Src) := match d with
  | .str z => some (signs z, [])
  | .tup ds => some (ds, [])
  | d => (lstOf S d).map fun ds => (ds, srcOf d ds)
def iSeq (f : Env → M D) : Env → M (List D × Src) := fun ρ => mbind (f ρ) fun d S => mopt (kSeq S d) S
def kEnum (S : Sto) (ds : List D) : Option (List D × Src) := match ds with
  | [d] => (lstOf S d).map fun ds => (enumD 0 ds, srcOf d ds)
  | _ => none
def kZip (S : Sto) (ds : List D) : Option (List D × Src) := match ds with
  | [.tup xs, .tup ys] => some (zipD xs ys, [])
  | [d, e] => (lstOf S d).bind fun xs => (lstOf S e).map fun ys => (zipD xs ys, srcOf d xs ++ srcOf e ys)
  | _ => none
def kRange1 (_ : Sto) (ds : List D) : Option (List D × Src) := match ds with
  | [.int j] => if -(2 ^ 62) ≤ j ∧ j < 2 ^ 62 then some (rng 0 j.toNat, []) else none
  | _ => none
def kRange2 (_ : Sto) (ds : List D) : Option (List D × Src) := match ds with
  | [.int i, .int j] => if -(2 ^ 62) ≤ i ∧ i < 2 ^ 62 ∧ -(2 ^ 62) ≤ j ∧ j < 2 ^ 62 then some (rng i (j - i).toNat, []) else none
  | _ => none
def iB (k : Sto → List D → Option (List D × Src)) (g : Env → M (List D)) : Env → M (List D × Src) := fun ρ => mbind (g ρ) fun ds S => mopt (k S ds) S
section
variable {X : Cx} {EW : XW} {tg e e2 : Expr} {es : List Expr} {f : Env → M D} {g : Env → M (List D)} {p pos : Pos}
theorem rd_iA {k : Sto → List D → Option (List D × Src)} {σ : L2.St} {H : Hp} {R : It → Hp → Prop} (q : rdI X.K EW (iB k g) σ H R) :
    rdA X.K EW g σ H fun vs H1 => ∃ G as F S ds r, St0 X.K G as F H1 S ∧ Reps X.K as F ds vs ∧ k S ds = some r ∧ ∀ J, IterOk X.K J r.1 r.2 as F → R J H1 := by
  obtain ⟨G, as, F, S, ρ, st, sl, q⟩ := rd_oneA (k := fun _ ds S => mopt (k S ds) S) (ok := fun _ r as' F' H' _ => ∀ J, IterOk X.K J r.1 r.2 as' F' → R J H') q
  refine ⟨G, as, F, S, ρ, st, sl, q.imp (fun a as1 F1 H1 S1 x1 s1 h1 v r => ?_) fun _ _ _ _ _ _ _ h => h⟩
  obtain ⟨G, as, F, S, ρ, ds, st, sl, rs, q⟩ := h1 v r
  obtain ⟨r, e, q⟩ := fin.opt q
  exact ⟨G, as, F, S, ds, r, st, rs, e, q as F _ Ext.refl st⟩
theorem it_seq (he : PP X EW e f) : PIt X EW tg e (iSeq f) := pi_weak (pi_or (pi_list he) (pi_or (pi_tup he) (pi_str he))) fun σ H R q => by
  obtain ⟨G, as, F, S, ρ, st, sl, q0⟩ := q
  have q : fin X.K G as F (f ρ S) (fun d as' F' H' S' => fin X.K G as' F' (mopt (kSeq S' d) S') (fun r as' F' H' _ => ∀ J, IterOk X.K J r.1 r.2 as' F' → R J H') (eer X.K EW σ)) (eer X.K EW σ) := q0.bind
  cases ef : f ρ S with
  | stuck => rw [ef] at q; exact q.elim
  | err x S' => exact .inl ⟨G, as, F, S, ρ, st, sl, by rw [ef] at q ⊢; exact q⟩
  | ok d S' =>
    rw [ef] at q
    have q : ∀ as' F' H', Ext as as' F F' → St0 X.K G as' F' H' S' → fin X.K G as' F' (mopt (kSeq S' d) S') (fun r as' F' H' _ => ∀ J, IterOk X.K J r.1 r.2 as' F' → R J H') (eer X.K EW σ) := q
    have lst : ∀ ds, kSeq S' d = some (ds, srcOf d ds) → lstOf S' d = some ds → iList X.K (rdE X.K EW f) σ H R := fun ds e1 e2 => by
      refine ⟨G, as, F, S, ρ, st, sl, ?_⟩
      rw [ef]
      intro as1 F1 H1 x1 s1 v r
      have q := q as1 F1 H1 x1 s1
      rw [e1] at q
      obtain ⟨a, vs, rfl, hv, rv⟩ := lstOf_ok s1 r e2
      exact ⟨a, rfl, ⟨vs, SqL.of hv⟩, q as1 F1 H1 Ext.refl s1 _ (iterOk_list r e2)⟩
    have no : kSeq S' d = none → iList X.K (rdE X.K EW f) σ H R := fun e1 => by
      refine ⟨G, as, F, S, ρ, st, sl, ?_⟩
      rw [ef]
      intro as1 F1 H1 x1 s1 v r
      have q := q as1 F1 H1 x1 s1
      rw [e1] at q
      exact q.elim
    cases d with
    | str z =>
      refine .inr (.inr ⟨G, as, F, S, ρ, st, sl, ?_⟩)
      rw [ef]
      intro as1 F1 H1 x1 s1 v r
      cases r
      exact ⟨z, rfl, q as1 F1 H1 x1 s1 as1 F1 H1 Ext.refl s1 _ iterOk_str⟩
    | tup ds =>
      refine .inr (.inl ⟨G, as, F, S, ρ, st, sl, ?_⟩)
      rw [ef]
      intro as1 F1 H1 x1 s1 v r
      cases r with
      | @tup a vs _ hT rs => exact ⟨a, rfl, ⟨vs, same_seqT s1.sub hT.sq⟩, q as1 F1 H1 x1 s1 as1 F1 H1 Ext.refl s1 _ (iterOk_tup (.tup hT rs))⟩
    | lst ds => exact .inl (lst ds rfl rfl)
    | loc n =>
      cases e1 : lstOf S' (.loc n) with
      | none => exact .inl (no (by unfold kSeq; simp only [e1]; rfl))
      | some ds => exact .inl (lst ds (by unfold kSeq; simp only [e1]; rfl) e1)
    | _ => exact .inl (no rfl)
theorem it_enum {elts : List Expr} {kk : Nat} {tpos : Pos} (hg : Gl X "enumerate") (hm : X.mg "enumerate" = none) (ha : PQ X EW [e] g) (hs : starEach [e] X.env = [(false, eval e X.env)] := by rfl) :
    PIt X EW (.Tuple elts kk tpos) (.Call (.Name "enumerate" p) [e] [] pos) (iB kEnum g) := pi_weak (pi_enum hg hm ha hs) fun σ H R q => by
  obtain ⟨G, as, F, S, ρ, st, sl, q⟩ := rd_iA q
  refine ⟨G, as, F, S, ρ, st, sl, q.imp (fun a as1 F1 H1 S1 x1 s1 h1 v r => ?_) fun _ _ _ _ _ _ _ h => h⟩
  obtain ⟨G, as, F, S, ds, pr, st, rs, e, q⟩ := h1 v r
  match ds, e with
  | [d], e =>
    have e : (lstOf S d).map (fun ds => (enumD 0 ds, srcOf d ds)) = some pr := e
    cases e1 : lstOf S d with
    | none => rw [e1] at e; cases e
    | some xs =>
      rw [e1] at e; cases e
      obtain ⟨v, rfl, rv⟩ := reps1 rs
      obtain ⟨a, vs, rfl, hv, _⟩ := lstOf_ok st rv e1
      exact ⟨a, vs, rfl, SqL.of hv, q _ (iterOk_enum rv e1)⟩
theorem it_zip {elts : List Expr} {kk : Nat} {tpos : Pos} (hg : Gl X "zip") (hm : X.mg "zip" = none) (ha : PQ X EW [e, e2] g)
    (hs : starEach [e, e2] X.env = (false, eval e X.env) :: starEach [e2] X.env := by rfl) (hpl : (backTo pos (starEach [e2] X.env)).any (·.1) = false := by rfl) :
    PIt X EW (.Tuple elts kk tpos) (.Call (.Name "zip" p) [e, e2] [] pos) (iB kZip g) := pi_weak (pi_zipA hg hm ha hs hpl) fun σ H R q => by
  obtain ⟨G, as, F, S, ρ, st, sl, q⟩ := rd_iA q
  refine ⟨G, as, F, S, ρ, st, sl, q.imp (fun a as1 F1 H1 S1 x1 s1 h1 v r => ?_) fun _ _ _ _ _ _ _ h => h⟩
  obtain ⟨G, as, F, S, ds, pr, st, rs, e, q⟩ := h1 v r
  match ds, e with
  | [d, d'], e =>
    obtain ⟨v, w, rfl, rv, rw'⟩ := reps2 rs
    have lists : ((lstOf S d).bind fun xs => (lstOf S d').map fun ys => (zipD xs ys, srcOf d xs ++ srcOf d' ys)) = some pr → ∃ a b xs ys, [v, w] = [.ref a, .ref b] ∧ ((SqL X.K H1 a xs ∧ SqL X.K H1 b ys ∧ R (Itz X.K a b) H1) ∨ (SqT X.K H1 a xs ∧ SqT X.K H1 b ys ∧ R (ItzT X.K a b) H1)) := fun e => by
      cases e1 : lstOf S d with
      | none => rw [e1] at e; cases e
      | some xs => cases e2 : lstOf S d' with
        | none => rw [e1, e2] at e; cases e
        | some ys =>
          rw [e1, e2] at e; cases e
          obtain ⟨a, vs, rfl, hv, _⟩ := lstOf_ok st rv e1
          obtain ⟨b, ws, rfl, hw, _⟩ := lstOf_ok st rw' e2
          exact ⟨a, b, vs, ws, rfl, .inl ⟨SqL.of hv, SqL.of hw, q _ (iterOk_zip rv rw' e1 e2)⟩⟩
    cases d with
    | tup xs => cases d' with
      | tup ys =>
        cases e
        cases rv with
        | @tup a vs _ hT rv => cases rw' with
          | @tup b ws _ hT' rw' => exact ⟨a, b, vs, ws, rfl, .inr ⟨same_seqT st.sub hT.sq, same_seqT st.sub hT'.sq, q _ (iterOk_zipT (.tup hT rv) (.tup hT' rw'))⟩⟩
      | _ => exact lists e
    | _ => exact lists e
  | [], e => cases e
  | [x], e => cases x <;> cases e
  | x :: y :: _ :: _, e => cases x <;> cases y <;> cases e
theorem it_range1 (hg : Gl X "range") (hm : X.mg "range" = none) (ha : PQ X EW [e] g) (hs : starEach [e] X.env = [(false, eval e X.env)] := by rfl) : PIt X EW tg (.Call (.Name "range" p) [e] [] pos) (iB kRange1 g) := pi_weak (pi_range1 hg hm ha hs) fun σ H R q => by
  obtain ⟨G, as, F, S, ρ, st, sl, q⟩ := rd_iA q
  refine ⟨G, as, F, S, ρ, st, sl, q.imp (fun a as1 F1 H1 S1 x1 s1 h1 v r => ?_) fun _ _ _ _ _ _ _ h => h⟩
  obtain ⟨G, as, F, S, ds, pr, st, rs, e, q⟩ := h1 v r
  match ds, e with
  | [.int j], e =>
    have e : (if -(2 ^ 62) ≤ j ∧ j < 2 ^ 62 then some (rng 0 j.toNat, []) else none) = some pr := e
    split at e
    · rename_i hz
      cases e
      obtain ⟨v, rfl, rv⟩ := reps1 rs
      cases rv
      exact ⟨j, rfl, hz.1, hz.2, q _ iterOk_rng⟩
    · cases e
theorem it_range2 (hg : Gl X "range") (hm : X.mg "range" = none) (ha : PQ X EW [e, e2] g) (hs : starEach [e, e2] X.env = [(false, eval e X.env), (false, eval e2 X.env)] := by rfl) (hs2 : starEach [e2] X.env = [(false, eval e2 X.env)] := by rfl) : PIt X EW tg (.Call (.Name "range" p) [e, e2] [] pos) (iB kRange2 g) := pi_weak (pi_range2 hg hm ha hs hs2) fun σ H R q => by
  obtain ⟨G, as, F, S, ρ, st, sl, q⟩ := rd_iA q
  refine ⟨G, as, F, S, ρ, st, sl, q.imp (fun a as1 F1 H1 S1 x1 s1 h1 v r => ?_) fun _ _ _ _ _ _ _ h => h⟩
  obtain ⟨G, as, F, S, ds, pr, st, rs, e, q⟩ := h1 v r
  match ds, e with
  | [.int i, .int j], e =>
    have e : (if -(2 ^ 62) ≤ i ∧ i < 2 ^ 62 ∧ -(2 ^ 62) ≤ j ∧ j < 2 ^ 62 then some (rng i (j - i).toNat, []) else none) = some pr := e
    split at e
    · rename_i hz
      cases e
      obtain ⟨v, w, rfl, rv, rw'⟩ := reps2 rs
      cases rv; cases rw'
      exact ⟨i, j, rfl, hz, q _ iterOk_rng⟩
    · cases e
end
end M2

/-! M2g: for, while, list comprehensions -/
namespace M2
open PySem PySem.Spec PyProof.Rows L2

theorem St0.drop {K : PySem.W.Frag} {G : Hp} {as : List Addr} {F H : Hp} {S : Sto} {p : Addr} {o : HO} (s : St0 K (upd G p o) as F H S) (hG : G p = none) : St0 K G as F H S :=
  ⟨s.sub, fun a u h => s.keep a u (by rw [upd_ne (ne_of_none h hG)]; exact h), fun a u h => s.dis a u (by rw [upd_ne (ne_of_none h hG)]; exact h), s.ntb, s.len, s.locs, s.nod, s.occ, fun a ps h => s.gtb a ps (by rw [upd_ne (ne_of_none h hG)]; exact h), s.tabs⟩

/-! ### for -/
noncomputable def forL (c : Src) (t : Tg) (body : Blk) : List D → Blk
  | [] => fun ρ S => gd c S (.nx ρ S) .stuck
  | d :: ds => fun ρ S => gd c S (match t.run d ρ with
    | none => .stuck
    | some ρ1 => match body ρ1 S with
      | .nx ρ2 S2 => forL c t body ds ρ2 S2
      | .ct ρ2 S2 => forL c t body ds ρ2 S2
      | .bk ρ2 S2 => .nx ρ2 S2
      | r => r) .stuck
noncomputable def bFor (it : Env → M (List D × Src)) (t : Tg) (body : Blk) : Blk := sE it fun ρ r S => forL r.2 t body r.1 ρ S
theorem rd_stI {K : PySem.W.Frag} {EW : XW} {f : Env → M (List D × Src)} {k : Env → List D × Src → Sto → Flow} {σ : L2.St} {H : Hp} {Dn : Ends} (h : rdS K EW (sE f k) Dn σ H) :
    rdI K EW f σ H fun J H1 => ∃ G as F S ρ r, St0 K G as F H1 S ∧ Slots K as F ρ σ ∧ IterOk K J r.1 r.2 as F ∧ fls K G as F (k ρ r S) Dn EW := by
  obtain ⟨G, as, F, S, ρ, st, sl, q⟩ := h
  exact ⟨G, as, F, S, ρ, st, sl, (fls.ex sl q).imp (fun a as' F' H' S' x s h J r => ⟨G, as', F', S', ρ, a, s, sl.mono x, r, h⟩) fun _ _ _ _ _ _ _ h => h⟩
theorem drop_some {α : Type} {ds : List α} {i : Nat} {d : α} {r : List α} (h : ds.drop i = d :: r) : ds[i]? = some d ∧ ds.drop (i + 1) = r ∧ i < ds.length := by
  have h1 : ds[i]? = some d := by
    have := congrArg List.head? h
    rw [List.head?_drop] at this
    exact this
  refine ⟨h1, ?_, (List.getElem?_eq_some_iff.mp h1).1⟩
  rw [← List.drop_drop, h]
  rfl
section
variable {X : Cx} {EW : XW} {tg iter : Expr} {body : List Stmt} {pos : Pos} {it : Env → M (List D × Src)} {t : Tg} {b : Blk}
theorem s_for (hi : PIt X EW tg iter it) (hg : PG X tg (rdG X.K t)) (hb : SSs X EW body b) (hp : PassesOwn (model X.prog X.w) X.A X.env X.xe) (hc : X.calm = true := by rfl)
    (hs : ∀ x, foldedSetIterable iter X.env x = pure x := by intro _; rfl) : SS X EW (.For tg iter body [] pos) (bFor it t b) := ps_weak (ps_for hp hc hi hg hb hs) fun Dn σ H q => by
  obtain ⟨G, as, F, S, ρ, s0, sl, q⟩ := rd_stI q
  refine ⟨G, as, F, S, ρ, s0, sl, q.imp (fun a as1 F1 H1 S1 x1 s1 h1 J hJ => ?_) fun _ _ _ _ _ _ _ h => h⟩
  obtain ⟨G, as, F, S, ρ, ⟨ds, c⟩, s0, sl, ok, q⟩ := h1 J hJ
  refine ⟨fun i m σ H => m = ds.length - i ∧ ∃ as' F' S' ρ', Ext as as' F F' ∧ St0 X.K G as' F' H S' ∧ Slots X.K as' F' ρ' σ ∧ fls X.K G as' F' (forL c t b (ds.drop i) ρ' S') Dn EW, ⟨_, rfl, as, F, S, ρ, Ext.refl, s0, sl, q⟩, ?_⟩
  rintro i m σ H ⟨rfl, as2, F2, S2, ρ2, x2, s2, sl2, q2⟩
  have q3 := q2
  cases e : ds.drop i with
  | nil =>
    rw [e] at q3
    obtain ⟨hc, q4⟩ := gd_cases (P := fun r => fls X.K G as2 F2 r Dn EW) q3 fun z => z
    have hl : ds.length ≤ i := List.drop_eq_nil_iff.mp e
    exact .inl ⟨(ok G as2 F2 H S2 i x2 s2 hc).2 hl, q4 as2 F2 H σ Ext.refl s2 sl2⟩
  | cons d r =>
    rw [e] at q3
    obtain ⟨e1, e2, hlt⟩ := drop_some e
    obtain ⟨hc, q4⟩ := gd_cases (P := fun r => fls X.K G as2 F2 r Dn EW) q3 fun z => z
    obtain ⟨go, yld⟩ := (ok G as2 F2 H S2 i x2 s2 hc).1 d e1
    refine .inr ⟨go, fun σ' H' => ∃ as' F' S' ρ', Ext as as' F F' ∧ St0 X.K G as' F' H' S' ∧ Slots X.K as' F' ρ' σ' ∧ fls X.K G as' F' (forL c t b r ρ' S') Dn EW, fun σ' H' hN => ⟨ds.length - (i + 1), by omega, rfl, by rw [e2]; exact hN⟩, fun y H2 hy => ?_⟩
    obtain ⟨F3, x3, s3, ry⟩ := yld y H2 hy
    cases e3 : t.run d ρ2 with
    | none => rw [e3] at q4; exact q4.elim
    | some ρ3 =>
      rw [e3] at q4
      refine ⟨G, as2, F3, S2, ρ2, d, ρ3, s3, sl2.mono x3, ry, e3, fun σ3 sl3 _ => ⟨G, as2, F3, S2, ρ3, s3, sl3, ?_⟩⟩
      have q5 : fls X.K G as2 F2 (match b ρ3 S2 with
        | .nx ρ2 S2 => forL c t b r ρ2 S2
        | .ct ρ2 S2 => forL c t b r ρ2 S2
        | .bk ρ2 S2 => .nx ρ2 S2
        | r => r) Dn EW := q4
      have q5 := fls.mono q5 x3
      cases e4 : b ρ3 S2 with
      | nx ρ4 S4 => rw [e4] at q5; exact fun as' F' H' σ' y1 y2 y3 => ⟨as', F', S4, ρ4, (x2.trans x3).trans y1, y2, y3, fls.mono q5 y1⟩
      | ct ρ4 S4 => rw [e4] at q5; exact fun as' F' H' σ' y1 y2 y3 => ⟨as', F', S4, ρ4, (x2.trans x3).trans y1, y2, y3, fls.mono q5 y1⟩
      | bk ρ4 S4 => rw [e4] at q5; exact q5
      | rt d4 S4 => rw [e4] at q5; exact q5
      | er d4 ρ4 S4 => rw [e4] at q5; exact q5
      | stuck => rw [e4] at q5; exact q5
end
/-! ### while -/
def whileL (t : Env → M Bool) (body : Blk) : Nat → Blk
  | 0 => fun _ _ => .stuck
  | n + 1 => fun ρ S => match t ρ S with
    | .ok true S1 => (match body ρ S1 with
      | .nx ρ2 S2 => whileL t body n ρ2 S2
      | .ct ρ2 S2 => whileL t body n ρ2 S2
      | .bk ρ2 S2 => .nx ρ2 S2
      | r => r)
    | .ok false S1 => .nx ρ S1
    | .err x S1 => .er x ρ S1
    | .stuck => .stuck
section
variable {X : Cx} {EW : XW} {c : Expr} {body : List Stmt} {pos : Pos} {t : Env → M Bool} {b : Blk}
theorem s_while (n : Nat) (hc : PB X EW c t) (hb : SSs X EW body b) (hp : PassesOwn (model X.prog X.w) X.A X.env X.xe) : SS X EW (.While c body [] pos) (whileL t b n) := ps_weak (ps_while hp hc hb) fun Dn σ H q => by
  refine ⟨fun m σ H => rdS X.K EW (whileL t b m) Dn σ H, ⟨n, q⟩, ?_⟩
  rintro m σ H ⟨G, as, F, S, ρ, s0, sl, q⟩
  cases m with
  | zero => exact q.elim
  | succ m =>
    refine ⟨G, as, F, S, ρ, s0, sl, ?_⟩
    have q : fls X.K G as F (match t ρ S with
      | .ok true S1 => (match b ρ S1 with
        | .nx ρ2 S2 => whileL t b m ρ2 S2
        | .ct ρ2 S2 => whileL t b m ρ2 S2
        | .bk ρ2 S2 => .nx ρ2 S2
        | r => r)
      | .ok false S1 => .nx ρ S1
      | .err x S1 => .er x ρ S1
      | .stuck => .stuck) Dn EW := q
    cases e : t ρ S with
    | stuck => rw [e] at q; exact q.elim
    | err x S1 => rw [e] at q; exact fun as' F' H' y1 y2 c dd xr => q as' F' H' σ c dd y1 y2 (sl.mono y1) xr
    | ok c S1 =>
      rw [e] at q
      cases c with
      | false => exact fun as' F' H' y1 y2 => q as' F' H' σ y1 y2 (sl.mono y1)
      | true =>
        intro as1 F1 H1 y1 y2
        refine ⟨fun σ' H' => rdS X.K EW (whileL t b m) Dn σ' H', fun σ' H' h => ⟨m, Nat.lt_succ_self m, h⟩, G, as1, F1, S1, ρ, y2, sl.mono y1, ?_⟩
        have q5 : fls X.K G as F (match b ρ S1 with
          | .nx ρ2 S2 => whileL t b m ρ2 S2
          | .ct ρ2 S2 => whileL t b m ρ2 S2
          | .bk ρ2 S2 => .nx ρ2 S2
          | r => r) Dn EW := q
        have q5 := fls.mono q5 y1
        cases e4 : b ρ S1 with
        | nx ρ4 S4 => rw [e4] at q5; exact fun as' F' H' σ' y1 y2 y3 => ⟨G, as', F', S4, ρ4, y2, y3, fls.mono q5 y1⟩
        | ct ρ4 S4 => rw [e4] at q5; exact fun as' F' H' σ' y1 y2 y3 => ⟨G, as', F', S4, ρ4, y2, y3, fls.mono q5 y1⟩
        | bk ρ4 S4 => rw [e4] at q5; exact q5
        | rt d4 S4 => rw [e4] at q5; exact q5
        | er d4 ρ4 S4 => rw [e4] at q5; exact q5
        | stuck => rw [e4] at q5; exact q5
end
/-! ### comprehensions -/
noncomputable def lcL (c : Src) (t : Tg) (tt : Env → M Bool) (te : Env → M D) (ρ : Env) : List D → List D → M (List D)
  | [], acc => fun S => gd c S (.ok acc S) .stuck
  | d :: ds, acc => fun S => gd c S (match t.run d ρ with
    | none => .stuck
    | some ρ1 => match tt ρ1 S with
      | .ok true S1 => (match te ρ1 S1 with
        | .ok y S2 => if acc.length < sizeLine then lcL c t tt te ρ ds (acc ++ [y]) S2 else .stuck
        | _ => .stuck)
      | .ok false S1 => lcL c t tt te ρ ds acc S1
      | _ => .stuck) .stuck
noncomputable def fLc (it : Env → M (List D × Src)) (t : Tg) (tt : Env → M Bool) (te : Env → M D) (vs : List Nat) : Env → M (List D) := fun ρ => mbind (it ρ) fun r => lcL r.2 t tt te (wipeE ρ vs) r.1 []
def tYesB : Env → M Bool := fun _ => mret true
abbrev W0 : WX := fun _ _ _ _ => False
abbrev PTB (X : Cx) (EW : XW) (ifs : List Expr) (f : Env → M Bool) : Prop := PTs X ifs (rdT X.K EW f)
theorem ptb_nil {X : Cx} {EW : XW} : PTB X EW [] tYesB := ⟨fun pins s σ H Q I q => by
  obtain ⟨G, as, F, S, ρ, st, sl, q⟩ := q
  exact pts_nil.run pins s σ H Q I (q as F H Ext.refl st)⟩
theorem ptb_one {X : Cx} {EW : XW} {c : Expr} {t : Env → M Bool} (h : PB X EW c t) : PTB X EW [c] t := pts_one h
section
variable {K : PySem.W.Frag} {EW : XW} {it : Env → M (List D × Src)} {t : Tg} {tt : Env → M Bool} {te : Env → M D} {vs : List Nat} {σ : L2.St} {H : Hp} {Q : VK}
theorem rd_lc (hvs : ∀ i ∈ t.slots, i ∈ vs) (q : rdF K EW (fLc it t tt te vs) σ H Q) : tLc (rdI K EW it) (rdG K t) (rdT K (ew W0) tt) (rdE K (ew W0) te) vs σ H Q := by
  obtain ⟨G, as, F, S, ρ, st, sl, q⟩ := q
  refine ⟨G, as, F, S, ρ, st, sl, q.bind.imp (fun r as1 F1 H1 S1 x1 s1 q1 J hJ => ?_) fun _ _ _ _ _ _ _ h => h⟩
  obtain ⟨ds, c⟩ := r
  intro A hA
  have hG := s1.gNone hA
  refine ⟨fun i m H => m = ds.length - i ∧ ∃ as' F' S' acc va, Ext as1 as' F1 F' ∧ St0 K (upd G A (.lst va)) as' F' H S' ∧ Reps K as' F' acc va ∧ fin K G as' F' (lcL c t tt te (wipeE ρ vs) (ds.drop i) acc S') (eokf K G Q) (eer K EW σ), ⟨_, rfl, as1, F1, S1, [], [], Ext.refl, s1.frame hA lst_ntb, .nil, q1⟩, ?_⟩
  rintro i m H ⟨rfl, as2, F2, S2, acc, va, x2, s2, ra, q2⟩
  have slw : Slots K as2 F2 (wipeE ρ vs) (L2.wipe σ vs) := ((sl.mono x1).mono x2).wipe vs
  have q3 := q2
  cases e : ds.drop i with
  | nil =>
    rw [e] at q3
    obtain ⟨hc, q4⟩ := gd_cases (P := fun r => fin K G as2 F2 r (eokf K G Q) (eer K EW σ)) q3 fun z => z
    have hl : ds.length ≤ i := List.drop_eq_nil_iff.mp e
    exact .inl ⟨(hJ _ as2 F2 H S2 i x2 s2 hc).2 hl, q4 as2 F2 H Ext.refl (s2.drop hG) H A va s2 hG ra⟩
  | cons d r =>
    rw [e] at q3
    obtain ⟨e1, e2, hlt⟩ := drop_some e
    obtain ⟨hc, q4⟩ := gd_cases (P := fun r => fin K G as2 F2 r (eokf K G Q) (eer K EW σ)) q3 fun z => z
    obtain ⟨go, yld⟩ := (hJ _ as2 F2 H S2 i x2 s2 hc).1 d e1
    refine .inr ⟨go, fun H' => ∃ as' F' S' acc va, Ext as1 as' F1 F' ∧ St0 K (upd G A (.lst va)) as' F' H' S' ∧ Reps K as' F' acc va ∧ fin K G as' F' (lcL c t tt te (wipeE ρ vs) r acc S') (eokf K G Q) (eer K EW σ), fun H' hN => ⟨ds.length - (i + 1), by omega, rfl, by rw [e2]; exact hN⟩, fun y H2 hy => ?_⟩
    obtain ⟨F3, x3, s3, ry⟩ := yld y H2 hy
    cases e3 : t.run d (wipeE ρ vs) with
    | none => rw [e3] at q4; exact q4.elim
    | some ρ3 =>
      rw [e3] at q4
      refine ⟨_, as2, F3, S2, wipeE ρ vs, d, ρ3, s3, slw.mono x3, ry, e3, fun σ3 sl3 u3 => ⟨(u3.wipe hvs).trans (wipe_twice σ vs), ?_⟩⟩
      refine ⟨_, as2, F3, S2, ρ3, s3, sl3, ?_⟩
      have q5 : fin K G as2 F2 (match tt ρ3 S2 with
        | .ok true S1 => (match te ρ3 S1 with
          | .ok y S2 => if acc.length < sizeLine then lcL c t tt te (wipeE ρ vs) r (acc ++ [y]) S2 else .stuck
          | _ => .stuck)
        | .ok false S1 => lcL c t tt te (wipeE ρ vs) r acc S1
        | _ => .stuck) (eokf K G Q) (eer K EW σ) := q4
      have q5 := fin.mono q5 x3
      cases e4 : tt ρ3 S2 with
      | stuck => rw [e4] at q5; exact q5.elim
      | err x S4 => rw [e4] at q5; exact q5.elim
      | ok b S4 =>
        rw [e4] at q5
        intro as4 F4 H4 x4 s4
        cases b with
        | false =>
          simp only [eokb, Bool.false_eq_true, if_false]
          exact ⟨as4, F4, S4, acc, va, (x2.trans x3).trans x4, s4, (ra.mono x3).mono x4, fin.mono q5 x4⟩
        | true =>
          simp only [eokb, if_true]
          refine ⟨_, as4, F4, S4, ρ3, s4, sl3.mono x4, ?_⟩
          have q6 : fin K G as2 F3 (match te ρ3 S4 with
            | .ok y S2 => if acc.length < sizeLine then lcL c t tt te (wipeE ρ vs) r (acc ++ [y]) S2 else .stuck
            | _ => .stuck) (eokf K G Q) (eer K EW σ) := q5
          have q6 := fin.mono q6 x4
          cases e5 : te ρ3 S4 with
          | stuck => rw [e5] at q6; exact q6.elim
          | err x S5 => rw [e5] at q6; exact q6.elim
          | ok y S5 =>
            rw [e5] at q6
            have q6 : fin K G as4 F4 (if acc.length < sizeLine then lcL c t tt te (wipeE ρ vs) r (acc ++ [y]) S5 else .stuck) (eokf K G Q) (eer K EW σ) := q6
            split at q6
            · rename_i hz
              intro as5 F5 H5 x5 s5 v rv
              have ra5 := ((ra.mono x3).mono x4).mono x5
              refine ⟨va, s5.keep _ _ upd_same, by rw [← ra5.length]; exact hz, as5, F5, S5, acc ++ [y], va ++ [v], ((x2.trans x3).trans x4).trans x5, s5.reframe trivial lst_ntb, ra5.append (.cons rv .nil), fin.mono q6 x5⟩
            · exact q6.elim
end
section
variable {X : Cx} {EW : XW} {elt tg iter : Expr} {ifs : List Expr} {scope : Scope} {own : List (Str × Nat)} {pos : Pos} {it : Env → M (List D × Src)} {t : Tg} {tt : Env → M Bool} {te : Env → M D}
theorem pf_lc (hN : X.N.Nodup) (hi : PIt X EW tg iter it) (ok : BlkOk X.N X.env.scope scope own) (hvs : ∀ i ∈ t.slots, i ∈ own.map (·.2))
    (hg : ∀ (s : Shared) (H : Hp) (C : Addr) (cl : List (Str × Addr)) (fp : List Addr), PG (X.blk s H scope (compEnvC scope cl C X.env) fp) tg (rdG X.K t)) (ht : ∀ (s : Shared) (H : Hp) (C : Addr) (cl : List (Str × Addr)) (fp : List Addr), PTB (X.blk s H scope (compEnvC scope cl C X.env) fp) (ew W0) ifs tt)
    (he : ∀ (s : Shared) (H : Hp) (C : Addr) (cl : List (Str × Addr)) (fp : List Addr), PP (X.blk s H scope (compEnvC scope cl C X.env) fp) (ew W0) elt te) (hc : X.calm = true := by rfl) (hs : ∀ x, foldedSetIterable iter X.env x = pure x := by intro _; rfl) :
    PF X EW (.ListComp elt [⟨tg, iter, ifs, 0⟩] scope pos) (fLc it t tt te (own.map (·.2))) :=
  pe_weak (pe_lc hc hN hi ok hg ht he hs) fun _ _ _ q => rd_lc hvs q
/-- name = [..] on one line -/
def bSetF (i : Nat) (f : Env → M (List D)) : Blk := bSet i (eFrz f)
def bSetL (i : Nat) (f : Env → M (List D)) : Blk := bSet i (eLoc f)
theorem rd_setF {K : PySem.W.Frag} {i : Nat} {f : Env → M (List D)} {Dn : Ends} {σ : L2.St} {H : Hp} (q : rdS K EW (bSet i (eFrz f)) Dn σ H) : rdF K EW f σ H fun x H1 => gName i x σ H1 Dn.nx := by
  refine rdF_frz ?_
  obtain ⟨G, as, F, S, ρ, s0, sl, q⟩ := rd_st q
  refine ⟨G, as, F, S, ρ, s0, sl, q.imp (fun a as1 F1 H1 S1 x1 s1 h1 v r => ?_) fun _ _ _ _ _ _ _ h => h⟩
  obtain ⟨G, as, F, S, ρ, a, s0, sl, ra, q⟩ := h1 v r
  exact q as F _ _ Ext.refl s0 (sl.set i ra)
theorem rd_setL {K : PySem.W.Frag} {i : Nat} {f : Env → M (List D)} {Dn : Ends} {σ : L2.St} {H : Hp} (q : rdS K EW (bSet i (eLoc f)) Dn σ H) : rdF K EW f σ H fun x H1 => gName i x σ H1 Dn.nx := by
  refine rdF_loc ?_
  obtain ⟨G, as, F, S, ρ, s0, sl, q⟩ := rd_st q
  refine ⟨G, as, F, S, ρ, s0, sl, q.imp (fun a as1 F1 H1 S1 x1 s1 h1 v r => ?_) fun _ _ _ _ _ _ _ h => h⟩
  obtain ⟨G, as, F, S, ρ, a, s0, sl, ra, q⟩ := h1 v r
  exact q as F _ _ Ext.refl s0 (sl.set i ra)
theorem s_setLcF (i : Nat) {y : Str} {py spos : Pos} (hN : X.N.Nodup) (hi : PIt X EW tg iter it) (ok : BlkOk X.N X.env.scope scope own) (hvs : ∀ i ∈ t.slots, i ∈ own.map (·.2))
    (hg : ∀ (s : Shared) (H : Hp) (C : Addr) (cl : List (Str × Addr)) (fp : List Addr), PG (X.blk s H scope (compEnvC scope cl C X.env) fp) tg (rdG X.K t)) (ht : ∀ (s : Shared) (H : Hp) (C : Addr) (cl : List (Str × Addr)) (fp : List Addr), PTB (X.blk s H scope (compEnvC scope cl C X.env) fp) (ew W0) ifs tt)
    (he : ∀ (s : Shared) (H : Hp) (C : Addr) (cl : List (Str × Addr)) (fp : List Addr), PP (X.blk s H scope (compEnvC scope cl C X.env) fp) (ew W0) elt te)
    (hsw : swapsWith (.ListComp elt [⟨tg, iter, ifs, 0⟩] scope pos) (some (.Name y py)) spos.line X.env = pure true) (hy : X.N[i]? = some y := by rfl) (hyl : X.env.scope.names.lookup y = some .local := by rfl) (hc : X.calm = true := by rfl) (hs : ∀ x, foldedSetIterable iter X.env x = pure x := by intro _; rfl) :
    SS X EW (.Assign [.Name y py] (.ListComp elt [⟨tg, iter, ifs, 0⟩] scope pos) spos) (bSetF i (fLc it t tt te (own.map (·.2)))) :=
  ps_weak (ps_setLc hc hN hy hyl hsw hi ok hg ht he hs) fun _ _ _ q => rd_lc hvs (rd_setF q)
theorem s_setLcL (i : Nat) {y : Str} {py spos : Pos} (hN : X.N.Nodup) (hi : PIt X EW tg iter it) (ok : BlkOk X.N X.env.scope scope own) (hvs : ∀ i ∈ t.slots, i ∈ own.map (·.2))
    (hg : ∀ (s : Shared) (H : Hp) (C : Addr) (cl : List (Str × Addr)) (fp : List Addr), PG (X.blk s H scope (compEnvC scope cl C X.env) fp) tg (rdG X.K t)) (ht : ∀ (s : Shared) (H : Hp) (C : Addr) (cl : List (Str × Addr)) (fp : List Addr), PTB (X.blk s H scope (compEnvC scope cl C X.env) fp) (ew W0) ifs tt)
    (he : ∀ (s : Shared) (H : Hp) (C : Addr) (cl : List (Str × Addr)) (fp : List Addr), PP (X.blk s H scope (compEnvC scope cl C X.env) fp) (ew W0) elt te)
    (hsw : swapsWith (.ListComp elt [⟨tg, iter, ifs, 0⟩] scope pos) (some (.Name y py)) spos.line X.env = pure true) (hy : X.N[i]? = some y := by rfl) (hyl : X.env.scope.names.lookup y = some .local := by rfl) (hc : X.calm = true := by rfl) (hs : ∀ x, foldedSetIterable iter X.env x = pure x := by intro _; rfl) :
    SS X EW (.Assign [.Name y py] (.ListComp elt [⟨tg, iter, ifs, 0⟩] scope pos) spos) (bSetL i (fLc it t tt te (own.map (·.2)))) :=
  ps_weak (ps_setLc hc hN hy hyl hsw hi ok hg ht he hs) fun _ _ _ q => rd_lc hvs (rd_setL q)
end
end M2

/-! M2h: methods of lists, x[i] = e, three at once, raise -/
namespace M2
open PySem PySem.Spec PyProof.Rows L2

/-- a method that may write -/
def MtS (K : PySem.W.Frag) (r : V → List V → Hp → VK → Prop) (k : Sto → D → List D → Option (D × Sto)) : Prop := ∀ G as F H S d ds x vs res S' Q, St0 K G as F H S → Rep K as F d x → Reps K as F ds vs → k S d ds = some (res, S') →
  (∀ as' F' H' v, Ext as as' F F' → St0 K G as' F' H' S' → Rep K as' F' res v → Q v H') → r x vs H Q
def mst {α : Type} : Option (α × Sto) → Res α
  | some (a, S) => .ok a S
  | none => .stuck
/-- l.name(..) on a list -/
def eMt (k : Sto → D → List D → Option (D × Sto)) (f : Env → M D) (g : Env → M (List D)) : Env → M D := fun ρ => mbind (f ρ) fun d S => match lstOf S d with
  | some _ => mbind (g ρ) (fun ds S' => mst (k S' d ds)) S
  | none => .stuck
def eMt0 (k : Sto → D → List D → Option (D × Sto)) (f : Env → M D) : Env → M D := fun ρ => mbind (f ρ) fun d S => match lstOf S d with
  | some _ => mst (k S d [])
  | none => .stuck
theorem fin.mst {K : PySem.W.Frag} {G : Hp} {as : List Addr} {F : Hp} {α : Type} {o : Option (α × Sto)} {ok : α → List Addr → Hp → Hp → Sto → Prop} {er : Xc → List Addr → Hp → Hp → Sto → Prop} (h : fin K G as F (mst o) ok er) :
    ∃ a S', o = some (a, S') ∧ ∀ as' F' H', Ext as as' F F' → St0 K G as' F' H' S' → ok a as' F' H' S' := by
  cases o with
  | none => exact h.elim
  | some a => exact ⟨a.1, a.2, rfl, h⟩
section
variable {X : Cx} {EW : XW} {o e : Expr} {es : List Expr} {f : Env → M D} {g : Env → M (List D)} {apos cpos : Pos} {r : V → List V → Hp → VK → Prop} {k : Sto → D → List D → Option (D × Sto)} {name : Str} {id : String}
theorem pp_mt (slot : Slot "list" name id) (hty : typeOf (.builtin id) = pure (.type "method_descriptor")) (hm : MtR X id r) (hk : MtS X.K r k) (ho : PP X EW o f) (ha : PQ X EW (e :: es) g)
    (hbase : attributeBase o name X.env (eval o X.env) = eval o X.env := by rfl)
    (hfew : ((backTo cpos (starEach (e :: es) X.env)).all (fun x => !x.1) && (backToKw cpos (keywordEach [] X.env)).all (fun x => x.1.isSome)
      && decide ((e :: es).length + ([] : List Keyword).length + (if ([] : List Keyword).isEmpty then 0 else 1) < 30)) = true := by rfl)
    (hline : (apos.endLine == cpos.line) = true := by rfl) (hs : starEach (e :: es) X.env = (false, eval e X.env) :: starEach es X.env := by rfl) (hplain : (backTo cpos (starEach es X.env)).any (·.1) = false := by rfl) :
    PP X EW (.Call (.Attribute o name apos) (e :: es) [] cpos) (eMt k f g) := pe_weak (pe_bm PySem.F.plainAttrs_list slot hty hm ho ha hbase hfew hline hs hplain) fun σ H Q q => by
  obtain ⟨G, as, F, S, ρ, st, sl, q⟩ := rd_one (k := fun ρ d S => match lstOf S d with
    | some _ => mbind (g ρ) (fun ds S' => mst (k S' d ds)) S
    | none => .stuck) (ok := fun _ => eok X.K Q) q
  refine ⟨G, as, F, S, ρ, st, sl, q.imp (fun a as1 F1 H1 S1 x1 s1 h1 v r => ?_) fun _ _ _ _ _ _ _ h => h⟩
  obtain ⟨G, as, F, S, ρ, d, st, sl, rd, q⟩ := h1 v r
  have q : fin X.K G as F (match lstOf S d with
    | some _ => mbind (g ρ) (fun ds S' => mst (k S' d ds)) S
    | none => .stuck) (eok X.K Q) (eer X.K EW σ) := q
  cases e1 : lstOf S d with
  | none => rw [e1] at q; exact q.elim
  | some xs =>
    rw [e1] at q
    obtain ⟨p, vs, rfl, hp, _⟩ := lstOf_ok st rd e1
    refine ⟨Or.inl ⟨rfl, _, SqL.of hp⟩, G, as, F, S, ρ, st, sl, q.bind.imp (fun ds as2 F2 H2 S2 x2 s2 h2 vs' rs => ?_) fun _ _ _ _ _ _ _ h => h⟩
    obtain ⟨res, S3, e3, q3⟩ := fin.mst (o := k S2 d ds) h2
    exact hk G as2 F2 H2 S2 d ds _ vs' res S3 Q s2 (rd.mono x2) rs e3 fun as' F' H' v x s r => q3 as' F' H' x s v r
theorem pp_mt0 (slot : Slot "list" name id) (hty : typeOf (.builtin id) = pure (.type "method_descriptor")) (hm : MtR X id r) (hk : MtS X.K r k) (ho : PP X EW o f)
    (hbase : attributeBase o name X.env (eval o X.env) = eval o X.env := by rfl) (hline : (apos.endLine == cpos.line) = true := by rfl) :
    PP X EW (.Call (.Attribute o name apos) [] [] cpos) (eMt0 k f) := pe_weak (pe_bm0 PySem.F.plainAttrs_list slot hty hm ho hbase hline) fun σ H Q q => by
  obtain ⟨G, as, F, S, ρ, st, sl, q⟩ := rd_one (k := fun ρ d S => match lstOf S d with
    | some _ => mst (k S d [])
    | none => .stuck) (ok := fun _ => eok X.K Q) q
  refine ⟨G, as, F, S, ρ, st, sl, q.imp (fun a as1 F1 H1 S1 x1 s1 h1 v r => ?_) fun _ _ _ _ _ _ _ h => h⟩
  obtain ⟨G, as, F, S, ρ, d, st, sl, rd, q⟩ := h1 v r
  have q : fin X.K G as F (match lstOf S d with
    | some _ => mst (k S d [])
    | none => .stuck) (eok X.K Q) (eer X.K EW σ) := q
  cases e1 : lstOf S d with
  | none => rw [e1] at q; exact q.elim
  | some xs =>
    rw [e1] at q
    obtain ⟨p, vs, rfl, hp, _⟩ := lstOf_ok st rd e1
    obtain ⟨res, S3, e3, q3⟩ := fin.mst (o := k S d []) q
    exact ⟨Or.inl ⟨rfl, _, SqL.of hp⟩, hk G as F _ S d [] _ [] res S3 Q st rd .nil e3 fun as' F' H' v x s r => q3 as' F' H' x s v r⟩
end
/-- the changeable list n -/
def locOf (S : Sto) : D → Option (Nat × List D)
  | .loc n => (match S[n]? with
    | some (.lst ds) => some (n, ds)
    | _ => none)
  | _ => none
theorem locOf_ok {K : PySem.W.Frag} {G : Hp} {as : List Addr} {F H : Hp} {S : Sto} (st : St0 K G as F H S) {d : D} {v : V} {n : Nat} {ds : List D} (r : Rep K as F d v) (h : locOf S d = some (n, ds)) : ∃ a vs, v = .ref a ∧ d = .loc n ∧ as[n]? = some a ∧ F a = none ∧ H a = some (.lst vs) ∧ Reps K as F ds vs := by
  cases d with
  | loc m =>
    cases r with
    | loc e =>
      have h : (match S[m]? with
        | some (.lst ds) => some (m, ds)
        | _ => none) = some (n, ds) := h
      cases e2 : S[m]? with
      | none => rw [e2] at h; cases h
      | some o =>
        rw [e2] at h
        cases o with
        | lst ys =>
          cases h
          obtain ⟨h0, vs, h1, r⟩ := st.locs n _ _ e2 e
          exact ⟨_, vs, rfl, rfl, e, h0, h1, r⟩
        | _ => cases h
  | _ => cases h
theorem St0.wlst {K : PySem.W.Frag} {G : Hp} {as : List Addr} {F H : Hp} {S : Sto} (s : St0 K G as F H S) {n : Nat} {a : Addr} {ds : List D} {vs ws : List V} (ha : as[n]? = some a) (hF : F a = none) (hH : H a = some (.lst ws)) (r : Reps K as F ds vs) : St0 K G as F (upd H a (.lst vs)) (S.set n (.lst ds)) :=
  s.write ha hF hH trivial lst_ntb fun H' h => ⟨hF, vs, h, r⟩
def kAppend : Sto → D → List D → Option (D × Sto) := fun S d ds => match locOf S d, ds with
  | some (n, xs), [y] => if xs.length < sizeLine then some (.non, S.set n (.lst (xs ++ [y]))) else none
  | _, _ => none
theorem mtS_append {K : PySem.W.Frag} : MtS K rAppend kAppend := by
  intro G as F H S d ds x vs res S' Q st rd rs e q
  unfold kAppend at e
  cases e1 : locOf S d with
  | none => rw [e1] at e; cases ds <;> cases e
  | some nx =>
    obtain ⟨n, xs⟩ := nx
    rw [e1] at e
    match ds, e with
    | [y], e =>
      have e : (if xs.length < sizeLine then some (D.non, S.set n (.lst (xs ++ [y]))) else none) = some (res, S') := e
      split at e
      · rename_i hz
        cases e
        obtain ⟨a, ws, rfl, rfl, ha, hF, hH, rw'⟩ := locOf_ok st rd e1
        obtain ⟨v, rfl, rv⟩ := reps1 rs
        exact ⟨a, ws, v, rfl, rfl, hH, by rw [← rw'.length]; exact hz, q as F _ _ Ext.refl (st.wlst ha hF hH (rw'.append (.cons rv .nil))) .non⟩
      · cases e
    | [], e => cases e
    | _ :: _ :: _, e => cases e
def kExtend : Sto → D → List D → Option (D × Sto) := fun S d ds => match locOf S d, ds with
  | some (n, xs), [y] => (lstOf S y).bind fun ys => if xs.length + ys.length ≤ sizeLine then some (.non, S.set n (.lst (xs ++ ys))) else none
  | _, _ => none
theorem mtS_extend {K : PySem.W.Frag} : MtS K rExtend kExtend := by
  intro G as F H S d ds x vs res S' Q st rd rs e q
  unfold kExtend at e
  cases e1 : locOf S d with
  | none => rw [e1] at e; cases ds <;> cases e
  | some nx =>
    obtain ⟨n, xs⟩ := nx
    rw [e1] at e
    match ds, e with
    | [y], e =>
      have e : ((lstOf S y).bind fun ys => if xs.length + ys.length ≤ sizeLine then some (D.non, S.set n (.lst (xs ++ ys))) else none) = some (res, S') := e
      cases e2 : lstOf S y with
      | none => rw [e2] at e; cases e
      | some ys =>
        rw [e2] at e
        have e : (if xs.length + ys.length ≤ sizeLine then some (D.non, S.set n (.lst (xs ++ ys))) else none) = some (res, S') := e
        split at e
        · rename_i hz
          cases e
          obtain ⟨a, ws, rfl, rfl, ha, hF, hH, rw'⟩ := locOf_ok st rd e1
          obtain ⟨v, rfl, rv⟩ := reps1 rs
          obtain ⟨b, zs, rfl, hB, rz⟩ := lstOf_ok st rv e2
          exact ⟨a, b, ws, zs, rfl, rfl, hH, hB, by rw [← rw'.length, ← rz.length]; exact hz, q as F _ _ Ext.refl (st.wlst ha hF hH (rw'.append rz)) .non⟩
        · cases e
    | [], e => cases e
    | _ :: _ :: _, e => cases e
def kPop : Sto → D → List D → Option (D × Sto) := fun S d ds => match locOf S d, ds with
  | some (n, xs), [] => (xs[xs.length - 1]?).map fun y => (y, S.set n (.lst xs.dropLast))
  | _, _ => none
theorem mtS_pop {K : PySem.W.Frag} : MtS K rPop kPop := by
  intro G as F H S d ds x vs res S' Q st rd rs e q
  unfold kPop at e
  cases e1 : locOf S d with
  | none => rw [e1] at e; cases ds <;> cases e
  | some nx =>
    obtain ⟨n, xs⟩ := nx
    rw [e1] at e
    match ds, e with
    | [], e =>
      have e : (xs[xs.length - 1]?).map (fun y => (y, S.set n (.lst xs.dropLast))) = some (res, S') := e
      cases e2 : xs[xs.length - 1]? with
      | none => rw [e2] at e; cases e
      | some y =>
        rw [e2] at e; cases e
        obtain ⟨a, ws, rfl, rfl, ha, hF, hH, rw'⟩ := locOf_ok st rd e1
        cases rs
        obtain ⟨v, hv, rv⟩ := rw'.get e2
        rw [rw'.length] at hv
        exact ⟨a, ws, v, rfl, rfl, hH, hv, q as F _ _ Ext.refl (st.wlst ha hF hH rw'.dropLast) rv⟩
    | _ :: _, e => cases e
section
variable {X : Cx} {EW : XW} {o e : Expr} {f : Env → M D} {g : Env → M (List D)} {apos cpos : Pos}
theorem pp_append (ho : PP X EW o f) (ha : PQ X EW [e] g)
    (hbase : attributeBase o "append" X.env (eval o X.env) = eval o X.env := by rfl)
    (hfew : ((backTo cpos (starEach [e] X.env)).all (fun x => !x.1) && (backToKw cpos (keywordEach [] X.env)).all (fun x => x.1.isSome)
      && decide ([e].length + ([] : List Keyword).length + (if ([] : List Keyword).isEmpty then 0 else 1) < 30)) = true := by rfl)
    (hline : (apos.endLine == cpos.line) = true := by rfl) (hs : starEach [e] X.env = (false, eval e X.env) :: starEach [] X.env := by rfl) :
    PP X EW (.Call (.Attribute o "append" apos) [e] [] cpos) (eMt kAppend f g) := pp_mt PySem.F.slot_list_append PySem.F.type_list_append mt_append mtS_append ho ha hbase hfew hline hs
theorem pp_extend (ho : PP X EW o f) (ha : PQ X EW [e] g)
    (hbase : attributeBase o "extend" X.env (eval o X.env) = eval o X.env := by rfl)
    (hfew : ((backTo cpos (starEach [e] X.env)).all (fun x => !x.1) && (backToKw cpos (keywordEach [] X.env)).all (fun x => x.1.isSome)
      && decide ([e].length + ([] : List Keyword).length + (if ([] : List Keyword).isEmpty then 0 else 1) < 30)) = true := by rfl)
    (hline : (apos.endLine == cpos.line) = true := by rfl) (hs : starEach [e] X.env = (false, eval e X.env) :: starEach [] X.env := by rfl) :
    PP X EW (.Call (.Attribute o "extend" apos) [e] [] cpos) (eMt kExtend f g) := pp_mt PySem.F.slot_list_extend PySem.F.type_list_extend mt_extend mtS_extend ho ha hbase hfew hline hs
theorem pp_pop (ho : PP X EW o f)
    (hbase : attributeBase o "pop" X.env (eval o X.env) = eval o X.env := by rfl) (hline : (apos.endLine == cpos.line) = true := by rfl) :
    PP X EW (.Call (.Attribute o "pop" apos) [] [] cpos) (eMt0 kPop f) := pp_mt0 PySem.F.slot_list_pop PySem.F.type_list_pop mt_pop mtS_pop ho hbase hline
end
/-! ### x[i] = e -/
def kSetIx (S : Sto) (o i v : D) : Option Sto := match locOf S o, i with
  | some (n, xs), .int j => (ixN xs.length j).map fun k => S.set n (.lst (xs.set k v))
  | _, _ => none
/-- e, then x, then i -/
def bSetIx (fo fi fe : Env → M D) : Blk := sE (fun ρ => mbind (fe ρ) fun v => mbind (fo ρ) fun o => mbind (fi ρ) fun i => mret (o, i, v)) fun ρ r S => match kSetIx S r.1 r.2.1 r.2.2 with
  | some S' => .nx ρ S'
  | none => .stuck
section
variable {X : Cx} {EW : XW} {o i e : Expr} {fo fi fe : Env → M D} {pos spos : Pos}
theorem s_setIx (he : PP X EW e fe) (ho : PP X EW o fo) (hi : PP X EW i fi) (hs : swapsWithSole [.Subscript o i spos] e pos.line X.env = pure false := by rfl) (hw : swappedStores [.Subscript o i spos] e X.env = pure none := by rfl)
    (h1 : (assignEach [.Subscript o i spos] X.env).map (·.2) = [assign (.Subscript o i spos) X.env] := by rfl)
    (ha : ∀ v, assign (.Subscript o i spos) X.env v = (do
      let ov ← holding [v] (eval o X.env)
      let iv ← holding [v, ov] (eval i X.env)
      standAt spos
      holding [v, ov, iv] (setItem ov iv v)
      release [v, ov, iv] []) := by intro _; rfl) : SS X EW (.Assign [.Subscript o i spos] e pos) (bSetIx fo fi fe) := ps_weak (ps_asg he (pg_sub ho hi set_list ha) hs hw h1) fun Dn σ H q => by
  obtain ⟨G, as, F, S, ρ, s0, sl, q⟩ := q
  have q := fls.ex sl q
  refine ⟨G, as, F, S, ρ, s0, sl, q.bind.imp (fun v as1 F1 H1 S1 x1 s1 h1 vv rv => ?_) fun _ _ _ _ _ _ _ h => h⟩
  refine ⟨G, as1, F1, S1, ρ, s1, sl.mono x1, h1.bind.imp (fun o' as2 F2 H2 S2 x2 s2 h2 vo ro => ?_) fun _ _ _ _ _ _ _ h => h⟩
  refine ⟨G, as2, F2, S2, ρ, s2, (sl.mono x1).mono x2, h2.bind.imp (fun i' as3 F3 H3 S3 x3 s3 h3 vi ri => ?_) fun _ _ _ _ _ _ _ h => h⟩
  have q4 : fls X.K G as3 F3 (match kSetIx S3 o' i' v with
    | some S' => .nx ρ S'
    | none => .stuck) Dn EW := fin.ret h3 s3
  cases e1 : kSetIx S3 o' i' v with
  | none => rw [e1] at q4; exact q4.elim
  | some S4 =>
    rw [e1] at q4
    unfold kSetIx at e1
    cases e2 : locOf S3 o' with
    | none => rw [e2] at e1; cases i' <;> cases e1
    | some nx =>
      obtain ⟨n, xs⟩ := nx
      rw [e2] at e1
      cases i' with
      | int j =>
        have e1 : (ixN xs.length j).map (fun k => S3.set n (.lst (xs.set k v))) = some S4 := e1
        cases e4 : ixN xs.length j with
        | none => rw [e4] at e1; cases e1
        | some k =>
          rw [e4] at e1; cases e1
          obtain ⟨a, ws, rfl, rfl, ha', hF, hH, rw'⟩ := locOf_ok s3 (ro.mono x3) e2
          cases ri
          refine ⟨a, ws, j, k, rfl, rfl, hH, by rw [← rw'.length]; exact e4, ?_⟩
          exact q4 as3 F3 _ _ Ext.refl (s3.wlst ha' hF hH (rw'.set ((rv.mono x2).mono x3) k)) (((sl.mono x1).mono x2).mono x3)
      | _ => cases e1
end
section
variable {X : Cx} {EW : XW} {g : Env → M (List D)} {pos : Pos}
theorem reps3 {K : PySem.W.Frag} {as : List Addr} {F : Hp} {d e f : D} {vs : List V} (r : Reps K as F [d, e, f] vs) : ∃ u v w, vs = [u, v, w] ∧ Rep K as F d u ∧ Rep K as F e v ∧ Rep K as F f w := by
  cases r with
  | cons r t => cases t with
    | cons r' t => cases t with
      | cons r'' t => cases t; exact ⟨_, _, _, rfl, r, r', r''⟩
theorem s_par3 (i j l : Nat) {x y z : Str} {a b c : Expr} {px py pz pt : Pos} {kt k2 pt2} (hN : X.N.Nodup) (ha : PQ X EW [a, b, c] g) (hw : swappedStores [.Tuple [.Name x px, .Name y py, .Name z pz] kt pt] (.Tuple [a, b, c] k2 pt2) X.env = pure (some [x, y, z])) (hc : X.calm = true := by rfl) (hi : X.N[i]? = some x := by rfl) (hj : X.N[j]? = some y := by rfl) (hl : X.N[l]? = some z := by rfl) (hij : i ≠ j := by decide) (hil : i ≠ l := by decide) (hjl : j ≠ l := by decide)
    (hx : X.env.scope.names.lookup x = some .local := by rfl) (hy : X.env.scope.names.lookup y = some .local := by rfl) (hz : X.env.scope.names.lookup z = some .local := by rfl)
    (hs : swapsWithSole [.Tuple [.Name x px, .Name y py, .Name z pz] kt pt] (.Tuple [a, b, c] k2 pt2) pos.line X.env = pure false := by rfl) :
    SS X EW (.Assign [.Tuple [.Name x px, .Name y py, .Name z pz] kt pt] (.Tuple [a, b, c] k2 pt2) pos) (bPar3 i j l g) := ps_weak (ps_par3 hc hN hi hj hl hij hil hjl hx hy hz ha hw hs) fun Dn σ H q => by
  obtain ⟨G, as, F, S, ρ, s0, sl, q⟩ := rd_stA q
  refine ⟨G, as, F, S, ρ, s0, sl, q.imp (fun a as1 F1 H1 S1 x1 s1 h1 v r => ?_) fun _ _ _ _ _ _ _ h => h⟩
  obtain ⟨G, as, F, S, ρ, ds, s0, sl, rs, q⟩ := h1 v r
  match ds, q with
  | [d, e, f], q =>
    obtain ⟨u, w', z', rfl, r1, r2, r3⟩ := reps3 rs
    exact ⟨u, w', z', rfl, q as F _ _ Ext.refl s0 (((sl.set i r1).set j r2).set l r3)⟩
  | [], q => exact q.elim
  | [_], q => exact q.elim
  | [_, _], q => exact q.elim
  | _ :: _ :: _ :: _ :: _, q => exact q.elim
end
end M2

/-! M2i: raise C(e) -/
namespace M2
open PySem PySem.Spec PyProof.Rows L2

def oexB (K : PySem.W.Frag) (C : Addr) : Bool := match K.lookup C with
  | some ⟨.type t, _, .cls cd, sl⟩ => (match cd.mro, sl.toList with
    | .ref C' :: bm, [_, _, _, _, some (.builtin n), _] => decide (t = "type") && (C' == C && (decide (n = "ValueError.__new__") && (cd.hasDict && (!cd.hasDel && PySem.HandSPX.refsVE bm))))
    | _, _ => false)
  | _ => false
structure ErrK (K : PySem.W.Frag) (x f : Str) : Prop where
  oex : OexC K (He.ga K x)
  iC : PySem.W.findIn K (.ref (He.ga K x)) "__init__" = some (some (.ref (He.ma K (He.ga K x) "__init__")))
  tI : PySem.W.typeIn K (.ref (He.ma K (He.ga K x) "__init__")) = some (.type "function")
  no : PySem.W.findIn K (.ref (He.ga K x)) f = some none
def errB (K : PySem.W.Frag) (x f : Str) : Bool := oexB K (He.ga K x) && (decide (PySem.W.findIn K (.ref (He.ga K x)) "__setattr__" = some (some (.builtin "object.__setattr__"))) && (decide (PySem.W.subIn K (.ref (He.ga K x)) (.type "BaseException") = some true) &&
  (decide (PySem.W.typeIn K (.ref (He.ga K x)) = some (.type "type")) && (PySem.W.keepIn K (.ref (He.ga K x)) && (decide (PySem.W.findIn K (.ref (He.ga K x)) "__init__" = some (some (.ref (He.ma K (He.ga K x) "__init__")))) &&
    (decide (PySem.W.typeIn K (.ref (He.ma K (He.ga K x) "__init__")) = some (.type "function")) && decide (PySem.W.findIn K (.ref (He.ga K x)) f = some none)))))))
theorem oexB_cls {K : PySem.W.Frag} {C : Addr} (h : oexB K C = true) : ∃ nm q N bs bm sn sub ab col dd k0 k1 k2 k3 k5, K.lookup C = some (excClassObj nm q C N bs bm true sn sub ab col dd k0 k1 k2 k3 k5 "ValueError.__new__") ∧ PySem.HandSPX.refsVE bm = true := by
  unfold oexB at h
  split at h
  · rename_i t dd cd sl ho
    split at h
    · rename_i C' bm k0 k1 k2 k3 n k5 hm hs
      simp only [Bool.and_eq_true, beq_iff_eq, decide_eq_true_eq, Bool.not_eq_true'] at h
      obtain ⟨rfl, rfl, rfl, h1, h2, h3⟩ := h
      obtain ⟨nm, bs, mro, ns, qn, hd, sn, sub, ab, col, del⟩ := cd
      dsimp only at hm h1 h2
      subst hm h1 h2
      have hsl : sl = #[k0, k1, k2, k3, some (.builtin "ValueError.__new__"), k5] := by
        obtain ⟨l⟩ := sl
        simp only at hs
        rw [hs]
      subst hsl
      exact ⟨_, _, _, _, _, _, _, _, _, _, _, _, _, _, _, ho, h3⟩
    · cases h
  · cases h
theorem errB_ok {K : PySem.W.Frag} {x f : Str} (h : errB K x f = true) : ErrK K x f := by
  unfold errB at h
  simp only [Bool.and_eq_true, decide_eq_true_eq] at h
  obtain ⟨h1, h2, h3, h4, h5, h6, h7, h8⟩ := h
  exact ⟨⟨oexB_cls h1, h2, h3, h4, h5⟩, h6, h7, h8⟩
/-- __init__(self, f): self.f = f -/
def spE1 (K : PySem.W.Frag) (f : Str) : Sp := fun vs H Q _ => ∃ (a C : Addr) (y : V), vs = [.ref a, y] ∧ OexC K C ∧ PySem.W.findIn K (.ref C) f = some none ∧ H a = some (exo a C none) ∧ ∀ dx, H dx = none → dx ≠ a → Q .non (upd (upd H dx (exd dx [(f, y)])) a (exo a C (some dx)))
structure ErrG (P : Program) (w : World) (K : PySem.W.Frag) (mg : Str → Option Value) (base : Heap) (x f : Str) : Prop where
  k : ErrK K x f
  gm : mg x = some (.ref (He.ga K x))
  ex : ∃ fd ps, ps.length = 2 ∧ Binds K fd ps [] ∧ FnOk P w K mg base L2.CX0 1 (He.ma K (He.ga K x) "__init__") fd ps (spE1 K f)
theorem ErrG.of {P : Program} {w : World} {K : PySem.W.Frag} {mg : Str → Option Value} {base : Heap} {x f qual y : Str} {params : Arguments} {sc : Scope} {fd : FuncData} {p1 p2 p3 p4 : Pos} (k : ErrK K x f) (gm : mg x = some (.ref (He.ga K x)))
    (F : FunD K "__init__" qual params [.Assign [.Attribute (.Name "self" p1) f p2] (.Name y p3) p4] sc [] [] (He.ma K (He.ga K x) "__init__") fd) (S : FnScope ["self", y] ["self", y] sc)
    (bd : ∀ (kV doc pm : Value) (an : Option Addr) (cdv ct : Value) (us : List Value), us.length = 2 → bindArgs (PySem.W.fnOf "__init__" qual params [.Assign [.Attribute (.Name "self" p1) f p2] (.Name y p3) p4] sc .none kV doc pm an cdv ct) ⟨us, []⟩ = pure ((["self", y] : List Str).zip us))
    (v1 : Vis sc "self") (v2 : Vis sc y) (d2 : (y == ("__debug__" : Str)) = false) (c2 : (y == ("__classdict__" : Str)) = false) : ErrG P w K mg base x f := by
  refine ⟨k, gm, fd, ["self", y], rfl, F.bindsN fun kV doc pm an cdv ct us hl => bd kV doc pm an cdv ct us hl, F.ok S (fun vs H Q E h => ?_) fun cdv A outer s H vs Q E hr h => ⟨tOst K f (tVar 0) (tVar 1), PSs.nox ?_, ?_⟩⟩
  · obtain ⟨a, C, y, rfl, _⟩ := h
    rfl
  · exact pss_one (ps_ost (pe_var (i := 0) rfl v1) (pe_var (i := 1) rfl v2 d2 c2) rfl)
  · obtain ⟨a, C, v, rfl, hC, hf, hH, q⟩ := h
    exact ⟨v, rfl, .ref a, rfl, a, C, rfl, hC, hf, .inl ⟨hH, fun dx h1 h2 => q dx h1 h2⟩⟩
theorem mk_heap {H : Hp} {a dx : Addr} {o1 o2 o3 o4 : HO} (n : H a = none) (ne : dx ≠ a) : upd (del (upd (upd (upd H a o1) dx o2) a o3) a) dx o4 = upd H dx o4 := by
  funext b
  by_cases h1 : b = dx
  · subst h1; rw [upd_same, upd_same]
  · rw [upd_ne h1, upd_ne h1]
    by_cases h2 : b = a
    · subst h2; rw [del_same, n]
    · rw [del_ne h2, upd_ne h2, upd_ne h1, upd_ne h2]
/-- raise x(e), x's one field f -/
def bRaise (x f : Str) (g : Env → M (List D)) : Blk := sE g fun ρ ds S => match ds with
  | [d] => .er ⟨x, [(f, d)]⟩ ρ S
  | _ => .stuck
section
variable {X : Cx} {W : WX} {x f : Str} {e : Expr} {g : Env → M (List D)} {p pos pos2 : Pos}
theorem s_raise (o : ErrG X.prog X.w X.K X.mg X.base x f) (hr : Room 2 X.A) (hg : Gl X x) (tk : Takes X W) (ha : PQ X (ew W) [e] g) (hc : X.calm = true := by rfl)
    (hdb : (x == ("__debug__" : Str)) = false := by decide) (he : starEach [e] X.env = (false, eval e X.env) :: starEach [] X.env := by rfl) (hpl : (backTo pos (starEach [] X.env)).any (·.1) = false := by rfl) :
    SS X (ew W) (.Raise (some (.Call (.Name x p) [e] [] pos)) none pos2) (bRaise x f g) := by
  obtain ⟨fd, ps, hp, hb, F1⟩ := o.ex
  refine ps_weak (ps_raise hc tk (pmk_oex (dvs := []) o.k.oex o.k.iC o.k.tI F1 hr hb .nil (fun _ _ _ _ _ _ _ h => h.elim) hg o.gm ha hdb he hpl)) fun Dn σ H q => ?_
  obtain ⟨G, as, F, S, ρ, s0, sl, q⟩ := rd_stA q
  refine ⟨G, as, F, S, ρ, s0, sl, q.imp (fun a as1 F1 H1 S1 x1 s1 h1 v r => ?_) fun _ _ _ _ _ _ _ h => h⟩
  obtain ⟨G, as, F, S, ρ, ds, s0, sl, rs, q⟩ := h1 v r
  match ds, q with
  | [d], q =>
    obtain ⟨u, rfl, r1⟩ := reps1 rs
    refine ⟨by show 1 ≤ 1000; omega, fun a na => ⟨a, _, u, rfl, o.k.oex, o.k.no, upd_same, fun dx hdx hne => ⟨rfl, dx, [(f, u)], upd_same, by rw [upd_ne hne, upd_same], ?_, ?_⟩⟩⟩
    · rw [upd_ne hne] at hdx; exact hdx
    · have ndx : H1 dx = none := by rw [upd_ne hne] at hdx; exact hdx
      rw [mk_heap na hne]
      exact q as F _ σ _ _ Ext.refl (s0.newOut ndx) sl ⟨rfl, dx, _, rfl, upd_same, .cons r1 .nil⟩
  | [], q => exact q.elim
  | _ :: _ :: _, q => exact q.elim
end
end M2

/-! M2j: the end of a def: what it held goes, what it returns is frozen -/
namespace M2
open PySem PySem.Spec PyProof.Rows L2

section
variable (n : Nat)
mutual
def bnd : D → Bool
  | .loc m => decide (m < n)
  | .tup ds => bnds ds
  | .lst ds => bnds ds
  | .dic ds => bndK ds
  | .dit ds => bndT ds
  | .ins _ ds => bndF ds
  | .non => true
  | .bl _ => true
  | .int _ => true
  | .str _ => true
  | .ty _ => true
  | .glo _ => true
  | .wls _ => true
def bnds : List D → Bool
  | [] => true
  | d :: ds => bnd d && bnds ds
def bndK : List (Key × D) → Bool
  | [] => true
  | (_, d) :: ds => bnd d && bndK ds
def bndT : List (List Key × D) → Bool
  | [] => true
  | (_, d) :: ds => bnd d && bndT ds
def bndF : List (Str × D) → Bool
  | [] => true
  | (_, d) :: ds => bnd d && bndF ds
end
def bndO : O → Bool
  | .lst ds => bnds n ds
  | .dic ds => bndK n ds
  | .dit ds => bndT n ds
  | .ins _ ds => bndF n ds
  | .dead => true
def bndS (S : Sto) : Bool := (S.take n).all (bndO n)
end
theorem take_get {as : List Addr} {n m : Nat} {a : Addr} (h : as[m]? = some a) (hm : m < n) : (as.take n)[m]? = some a := by
  rw [List.getElem?_take, if_pos hm]; exact h
section
variable {K : PySem.W.Frag} {as : List Addr} {F : Hp} {n : Nat}
mutual
theorem Rep.low : ∀ {d : D} {v : V}, bnd n d = true → Rep K as F d v → Rep K (as.take n) F d v
  | _, _, _, .non => .non
  | _, _, _, .bl => .bl
  | _, _, _, .int => .int
  | _, _, _, .str => .str
  | _, _, _, .ty => .ty
  | _, _, _, .glo => .glo
  | _, _, _, .wls h => .wls h
  | _, _, b, .loc h => .loc (take_get h (of_decide_eq_true b))
  | _, _, b, .tup h r => .tup h (Reps.low b r)
  | _, _, b, .lst h r => .lst h (Reps.low b r)
  | _, _, b, .dic h r => .dic h (RepK.low b r)
  | _, _, b, .dit h r => .dit h (RepT.low b r)
  | _, _, b, .ins h r => .ins h (RepF.low b r)
theorem Reps.low : ∀ {d : List D} {v : List V}, bnds n d = true → Reps K as F d v → Reps K (as.take n) F d v
  | _, _, _, .nil => .nil
  | _, _, b, .cons r t => .cons (Rep.low (Bool.and_eq_true_iff.mp b).1 r) (Reps.low (Bool.and_eq_true_iff.mp b).2 t)
theorem RepK.low : ∀ {d : List (Key × D)} {v : List (Key × V)}, bndK n d = true → RepK K as F d v → RepK K (as.take n) F d v
  | _, _, _, .nil => .nil
  | _, _, b, .cons r t => .cons (Rep.low (Bool.and_eq_true_iff.mp b).1 r) (RepK.low (Bool.and_eq_true_iff.mp b).2 t)
theorem RepT.low : ∀ {d : List (List Key × D)} {v : List (List Key × V)}, bndT n d = true → RepT K as F d v → RepT K (as.take n) F d v
  | _, _, _, .nil => .nil
  | _, _, b, .cons r t => .cons (Rep.low (Bool.and_eq_true_iff.mp b).1 r) (RepT.low (Bool.and_eq_true_iff.mp b).2 t)
theorem RepF.low : ∀ {d : List (Str × D)} {v : List (Str × V)}, bndF n d = true → RepF K as F d v → RepF K (as.take n) F d v
  | _, _, _, .nil => .nil
  | _, _, b, .cons r t => .cons (Rep.low (Bool.and_eq_true_iff.mp b).1 r) (RepF.low (Bool.and_eq_true_iff.mp b).2 t)
end
theorem OAt.low {H : Hp} {o : O} {a : Addr} (b : bndO n o = true) (h : OAt K as F H o a) : OAt K (as.take n) F H o a := by
  cases o with
  | lst ds => obtain ⟨h1, vs, h2, r⟩ := h; exact ⟨h1, vs, h2, r.low b⟩
  | dic ds => obtain ⟨h1, vs, h2, r⟩ := h; exact ⟨h1, vs, h2, r.low b⟩
  | dit ds => obtain ⟨h1, vs, h2, r⟩ := h; exact ⟨h1, vs, h2, r.low b⟩
  | ins C fs => obtain ⟨h1, dx, w, h2, r⟩ := h; exact ⟨h1, dx, w, h2, r.low b⟩
  | dead => trivial
theorem St0.low {G H : Hp} {S : Sto} (s : St0 K G as F H S) (b : bndS n S = true) : St0 K G (as.take n) F H (S.take n) := by
  refine ⟨s.sub, s.keep, fun a o h => ⟨(s.dis a o h).1, fun z => (s.dis a o h).2 (List.mem_of_mem_take z)⟩, s.ntb, by rw [List.length_take, List.length_take, s.len], fun k o a h1 h2 => ?_, s.nod.sublist (List.take_sublist _ _), fun a h => s.occ a (List.mem_of_mem_take h), s.gtb, s.tabs⟩
  have hb : bndO n o = true := List.all_eq_true.mp b o (List.mem_of_getElem? h1)
  rw [List.getElem?_take] at h1 h2
  split at h1
  · rename_i hk
    rw [if_pos hk] at h2
    exact (s.locs k o a h1 h2).low hb
  · cases h1
theorem Ext.low {as0 : List Addr} {F0 : Hp} (x : Ext as0 as F0 F) (h : as0.length ≤ n) : Ext as0 (as.take n) F0 F :=
  ⟨fun m a e => take_get (x.pre m a e) (Nat.lt_of_lt_of_le (List.getElem?_eq_some_iff.mp e).1 h), x.sub⟩
end
/-- the store behind a def: n are kept -/
def clo (n : Nat) (d : D) (S : Sto) : Res D := match d with
  | .loc m => if m < n then (if bndS n S = true then .ok (.loc m) (S.take n) else .stuck) else (match S[m]? with
    | some (.lst ds) => if (bnds n ds && bndS n S) = true then .ok (.lst ds) (S.take n) else .stuck
    | _ => .stuck)
  | d => if (bnd n d && bndS n S) = true then .ok d (S.take n) else .stuck
def envOf (N : Nat) (ds : List D) : Env := ds.map some ++ List.replicate (N - ds.length) none
def fnEnd (n : Nat) : Flow → Res D
  | .nx _ S => clo n .non S
  | .rt d S => clo n d S
  | .er x _ S => if (bndF n x.fs && bndS n S) = true then .err x (S.take n) else .stuck
  | _ => .stuck
/-- a def of N names; kp: how many new changeable objects it hands out -/
def runDef (N kp : Nat) (b : Blk) (ds : List D) : M D := fun S => fnEnd (S.length + kp) (b (envOf N ds) S)
theorem XRep.mono0 {K : PySem.W.Frag} {as as' : List Addr} {F H : Hp} {x : Xc} {c : Value} {dd : Option Addr} (h : XRep K as F H x c dd) (f : ∀ w, RepF K as F x.fs w → RepF K as' F x.fs w) : XRep K as' F H x c dd := by
  obtain ⟨h1, d, w, h2, h3, h4⟩ := h
  exact ⟨h1, d, w, h2, h3, f w h4⟩
theorem clo_ok {K : PySem.W.Frag} {G : Hp} {as : List Addr} {F : Hp} {n : Nat} {d : D} {S : Sto} {Q : VK} {er : Xc → List Addr → Hp → Hp → Sto → Prop} (hn : as.length ≤ n) (h : fin K G as F (clo n d S) (eok K Q) er) :
    ∀ as' F' H' v, Ext as as' F F' → St0 K G as' F' H' S → Rep K as' F' d v → Q v H' := by
  intro as' F' H' v x s r
  have plain : (d = d) → fin K G as F (if (bnd n d && bndS n S) = true then .ok d (S.take n) else .stuck) (eok K Q) er → Q v H' := fun _ h => by
    split at h
    · rename_i hb
      obtain ⟨b1, b2⟩ := Bool.and_eq_true_iff.mp hb
      exact h _ F' H' (x.low hn) (s.low b2) v (r.low b1)
    · exact h.elim
  cases d with
  | loc m =>
    have h : fin K G as F (if m < n then (if bndS n S = true then .ok (.loc m) (S.take n) else .stuck) else (match S[m]? with
      | some (.lst ds) => if (bnds n ds && bndS n S) = true then .ok (.lst ds) (S.take n) else .stuck
      | _ => .stuck)) (eok K Q) er := h
    split at h
    · rename_i hm
      split at h
      · rename_i b2
        exact h _ F' H' (x.low hn) (s.low b2) v (r.low (n := n) (decide_eq_true hm))
      · exact h.elim
    · rename_i hm
      cases e2 : S[m]? with
      | none => rw [e2] at h; exact h.elim
      | some o =>
        rw [e2] at h
        cases o with
        | lst ds =>
          have h : fin K G as F (if (bnds n ds && bndS n S) = true then .ok (.lst ds) (S.take n) else .stuck) (eok K Q) er := h
          split at h
          · rename_i hb
            obtain ⟨b1, b2⟩ := Bool.and_eq_true_iff.mp hb
            cases r with
            | @loc _ a ha =>
              obtain ⟨hF, vs, hH, rs⟩ := s.locs m _ _ e2 ha
              obtain ⟨s2, x2⟩ := s.freeze ha hF hH lst_ntb
              have e3 : (S.set m .dead).take n = S.take n := by rw [List.take_set, List.set_eq_of_length_le (by rw [List.length_take]; omega)]
              have b3 : bndS n (S.set m .dead) = true := by unfold bndS; rw [e3]; exact b2
              have s3 := s2.low b3
              rw [e3] at s3
              exact h _ _ H' ((x.trans x2).low hn) s3 (.ref a) (.lst upd_same ((rs.mono x2).low b1))
          · exact h.elim
        | _ => exact h.elim
  | _ => exact plain rfl h
theorem fls_of {K : PySem.W.Frag} {G : Hp} {as : List Addr} {F : Hp} {n : Nat} {r : Flow} {Q : VK} {E : XK} (hn : as.length ≤ n) (h : fin K G as F (fnEnd n r) (eok K Q) (fun x as' F' H' _ => ∀ c dd, XRep K as' F' H' x c dd → E c dd H')) :
    fls K G as F r { nx := fun _ H' => Q .non H', rt := Q } (ew fun c d _ H => E c d H) := by
  cases r with
  | nx ρ S => exact fun as' F' H' σ' x s sl => clo_ok hn h as' F' H' .non x s .non
  | rt d S => exact fun as' F' H' v x s r => clo_ok hn h as' F' H' v x s r
  | er y ρ S =>
    have h : fin K G as F (if (bndF n y.fs && bndS n S) = true then (.err y (S.take n) : Res D) else .stuck) (eok K Q) (fun x as' F' H' _ => ∀ c dd, XRep K as' F' H' x c dd → E c dd H') := h
    split at h
    · rename_i hb
      obtain ⟨b1, b2⟩ := Bool.and_eq_true_iff.mp hb
      exact fun as' F' H' σ' c dd x s sl xr => h _ F' H' (x.low hn) (s.low b2) c dd (xr.mono0 fun w rf => rf.low b1)
    · exact h.elim
  | bk ρ S => exact h.elim
  | ct ρ S => exact h.elim
  | stuck => exact h.elim
theorem slots_start {K : PySem.W.Frag} {as : List Addr} {F : Hp} {N : List Str} {ds : List D} {vs : List V} (r : Reps K as F ds vs) : Slots K as F (envOf N.length ds) (L2.start N vs) := by
  have hl := r.length
  refine ⟨by simp [envOf, L2.start, hl], fun i d e => ?_⟩
  unfold envOf at e
  unfold L2.start
  by_cases hi : i < ds.length
  · rw [List.getElem?_append_left (by simpa using hi), List.getElem?_map] at e
    cases e1 : ds[i]? with
    | none => rw [e1] at e; cases e
    | some d1 =>
      rw [e1] at e; cases e
      obtain ⟨v, hv, rv⟩ := r.get e1
      exact ⟨v, by rw [List.getElem?_append_left (by rw [List.length_map, ← hl]; exact hi), List.getElem?_map, hv]; rfl, rv⟩
  · rw [List.getElem?_append_right (by simpa using hi)] at e
    obtain ⟨_, e2⟩ := List.getElem?_eq_some_iff.mp e
    rw [List.getElem_replicate] at e2
    cases e2
/-- THE RULE for a def -/
theorem FnM.of {P : Program} {w : World} {K : PySem.W.Frag} {mg : Str → Option Value} {base : Heap} {gb : Bool} {k kp : Nat} {x qual : Str} {params : Arguments} {body : List Stmt} {sc : Scope} {fd : FuncData} {N ps : List Str} {b : Blk}
    (F : FunD K x qual params body sc [] [] (He.fAd K (x, none)) fd) (S : FnScope N ps sc) (gm : mg x = some (.ref (He.ga K x)))
    (bd : ∀ (kV doc pm : Value) (an : Option Addr) (cdv ct : Value) (us : List Value), us.length = ps.length → bindArgs (PySem.W.fnOf x qual params body sc .none kV doc pm an cdv ct) ⟨us, []⟩ = pure (ps.zip us))
    (h : ∀ (cdv : Value) (A : Around) (outer : List PySem.Env) (s : Shared) (H : Hp) (E : XK), cdv = .ref (He.codeOf K (x, none)) → Room k (A.deeper (envOfC qual sc s.heap.objs.size (He.ga K x) cdv)) → (gb = true → A.guards = some []) → SSs (cxOf (L2.CX P w) P w K mg base N qual sc (He.ga K x) cdv A outer s H E) (ew fun c d _ H => E c d H) body b) :
    FnM P w K mg base gb (k + 1) x ps.length (runDef N.length kp b) := by
  refine ⟨He.ga K x, fd, ps, rfl, gm, F.kp, F.bindsN bd, .of F S fun cdv hcd A outer s H vs Q E hr hg hl hsp => ?_⟩
  obtain ⟨oc, od, dV, kV, doc, pm, an, cdv', ct, osl, rfl, lk, hci, _, _⟩ := F.ex
  have e1 : cdv' = cdv := hcd
  subst e1
  obtain ⟨c, rfl⟩ := He.codeIn_ref hci
  refine ⟨_, h _ A outer s H E (by rw [He.codeOf_eq lk rfl]) hr hg, ?_⟩
  obtain ⟨G, as, F', S', ds, st, rs, q⟩ := hsp
  exact ⟨G, as, F', S', envOf N.length ds, st, slots_start rs, fls_of (by rw [st.len]; omega) q⟩
end M2

/-! M2k: a lambda handed to the def that listens -/
namespace M2
open PySem PySem.Spec PyProof.Rows L2

theorem takes_len {X : Cx} {W : WX} (t : Takes X W) : Takes X fun c d σ H => σ.length = X.N.length → W c d σ H := fun u s' ⟨a, B, sI, pins, σ, H, cls, d, e, I, nb, up, sky, na, os, ag, h⟩ =>
  t u s' ⟨a, B, sI, pins, σ, H, cls, d, e, I, nb, up, sky, na, os, ag, h I.len⟩
/-- what isinstance asks of the class of a caught error -/
structure KxC (K : PySem.W.Frag) (D : Addr) : Prop where
  hc : (PySem.W.clsIn K D).isSome = true
  hg : PySem.W.findIn K (.ref D) "__getattribute__" = some (some (.builtin "BaseException.__getattribute__"))
  hk : PySem.W.findIn K (.ref D) "__getattr__" = some none
  hs : PySem.W.subIn K (.ref D) (.type "BaseException") = some true
  ha : PySem.W.findIn K (.ref D) "__class__" = some (some (.builtin "object.__class__"))
  hn : PySem.W.specialIn K (.builtin "object.__class__") "__get__" = some (some (.builtin "getset_descriptor.__get__"))
  ht : PySem.W.takesIn K (.builtin "object.__class__") = some true
  hm : PySem.W.mroIn K D (.type "object") = some true
  hd : PySem.W.hasDictIn K D = true
def kxB (K : PySem.W.Frag) (D : Addr) : Bool := (PySem.W.clsIn K D).isSome && (decide (PySem.W.findIn K (.ref D) "__getattribute__" = some (some (.builtin "BaseException.__getattribute__"))) && (decide (PySem.W.findIn K (.ref D) "__getattr__" = some none) && (decide (PySem.W.subIn K (.ref D) (.type "BaseException") = some true) &&
  (decide (PySem.W.findIn K (.ref D) "__class__" = some (some (.builtin "object.__class__"))) && (decide (PySem.W.specialIn K (.builtin "object.__class__") "__get__" = some (some (.builtin "getset_descriptor.__get__"))) && (decide (PySem.W.takesIn K (.builtin "object.__class__") = some true) &&
    (decide (PySem.W.mroIn K D (.type "object") = some true) && PySem.W.hasDictIn K D)))))))
theorem kxB_ok {K : PySem.W.Frag} {D : Addr} (h : kxB K D = true) : KxC K D := by
  unfold kxB at h
  simp only [Bool.and_eq_true, decide_eq_true_eq] at h
  obtain ⟨h1, h2, h3, h4, h5, h6, h7, h8, h9⟩ := h
  exact ⟨h1, h2, h3, h4, h5, h6, h7, h8, h9⟩
def rIsX (K : PySem.W.Frag) (D a : Addr) (d : Option Addr) : List V → Hp → VK → Prop := fun xs H Q => ∃ (c : V) (cv : Value) (b : Bool) (dd : Addr) (fs : List (Str × V)), xs = [.ref a, c] ∧ (∀ u, RelV c u → u = cv) ∧ d = some dd ∧ H dd = some (.xd fs) ∧ PySem.W.kitOne K (.ref D) cv = some b ∧ Q (.bl b) H
theorem call_isX {X : Cx} {a D : Addr} {oe : Obj} {d : Option Addr} {pn : List (Addr × Obj)} (C : KxC X.K D) (hz : Zc (.ref D) d oe) (hf : ∃ vs, oe.data = .fields vs) : CallR (X.suite a ((a, oe) :: pn)) (.builtin "isinstance") (rIsX X.K D a d) := by
  intro ps s σ H xs us Q I r h
  obtain ⟨c, cv, b, dd, fs, rfl, hcv, rfl, hdd, e, q⟩ := h
  cases r with
  | cons r1 r =>
    cases r with
    | cons r2 r =>
      cases r
      cases r1
      obtain rfl := hcv _ r2
      obtain ⟨hget, _⟩ := I.pin (a, oe) (List.mem_append_left _ List.mem_cons_self)
      obtain ⟨vs, hv⟩ := hf
      have hx : ObjOk X.prog X.w H s.heap dd (.xd fs) := I.hok dd _ hdd
      obtain ⟨mA, hns, _⟩ := hx
      obtain ⟨od, ho, _⟩ := lookIn_ns hns
      have J : PySem.W.InstAt s.heap a oe D (some od) := ⟨hget, hz.1, by unfold PySem.W.notCls; rw [hv] <;> rfl, by rw [hz.2]; exact ho⟩
      exact PySem.W.kia_one (PySem.W.kitx_exc C.hc C.hg C.hk C.hs C.ha C.hn C.ht C.hm) I.kIn J e (fun z => nomatch z) fun tk => ⟨.bl b, H, I.kept (t' := tk) fun _ _ z => z, rfl, q⟩
/-- what the listening def makes of an error: the field part of a Misfit, "other" for another -/
def Hears (K : PySem.W.Frag) (Q : VK) : XK := fun cls d H => ∃ (D : Addr) (b : Bool) (dd : Addr) (fs : List (Str × V)), cls = .ref D ∧ PySem.W.exmOne K cls (.ref (He.ga K "WebError")) = some true ∧ KxC K D ∧ d = some dd ∧ H dd = some (.xd fs) ∧
  PySem.W.kitOne K (.ref D) (.ref (He.ga K "Misfit")) = some b ∧ (b = true → PySem.W.findIn K (.ref D) "part" = some none ∧ ∃ v, fs.lookup ("part" : Str) = some v ∧ Q v H) ∧ (b = false → Q (.str "other") H)
def THeard (K : PySem.W.Frag) : (XK → Hp → VK → Prop) → Hp → VK → Prop := fun tl H Q => tl (Hears K Q) H Q
abbrev Ng : List Str := ["ask", "found", "error"]
/-- the suite of the listening def -/
def tSuite (K : PySem.W.Frag) (a : Addr) (cls : Value) (d : Option Addr) : TS := fun Dn σ H => ∃ (D : Addr) (b : Bool) (dd : Addr) (fs : List (Str × V)), cls = .ref D ∧ KxC K D ∧ d = some dd ∧ H dd = some (.xd fs) ∧ PySem.W.kitOne K (.ref D) (.ref (He.ga K "Misfit")) = some b ∧ σ[2]? = some (some (.ref a)) ∧
  (b = true → PySem.W.findIn K (.ref D) "part" = some none ∧ ∃ v, fs.lookup ("part" : Str) = some v ∧ Dn.nx (σ.set 1 (some v)) H) ∧ (b = false → Dn.nx (σ.set 1 (some (.str "other"))) H)
section
variable {X : Cx} {sg : Scope} {g : Addr} {cdg : Value} {q : Str}
theorem heard_gives {x : Str} {j1 j2 : Nat} {p1 p2 p3 p4 p5 p6 p7 p8 p9 p10 p11 p12 p13 p14 p15 p16 p17 p18 p19 p20 p21 p22 : Pos}
    (gw : sg.names.lookup ("WebError" : Str) = some .globalImplicit) (gm : sg.names.lookup ("Misfit" : Str) = some .globalImplicit) (gi : sg.names.lookup ("isinstance" : Str) = some .globalImplicit)
    (l0 : sg.names.lookup ("ask" : Str) = some .local) (l1 : sg.names.lookup ("found" : Str) = some .local) (l2 : sg.names.lookup ("error" : Str) = some .local)
    (mw : X.mg "WebError" = some (.ref (He.ga X.K "WebError"))) (mm : X.mg "Misfit" = some (.ref (He.ga X.K "Misfit"))) (mi : X.mg "isinstance" = none) :
    LamX.GivesTo X Ng x sg g cdg [.Assign [.Name "found" p1] (.Constant .none j1 p2) p3,
      .Try [.Assign [.Name "found" p4] (.Call (.Name "ask" p5) [] [] p6) p7] [.ExceptHandler (some (.Name "WebError" p8)) (some "error") [.Assign [.Name "found" p9]
        (.IfExp (.Call (.Name "isinstance" p10) [.Name "error" p11, .Name "Misfit" p12] [] p13) (.Attribute (.Name "error" p14) "part" p15) (.Constant (.str "other") j2 p16) p17) p18] p19] [] [] p20,
      .Return (some (.Name "found" p21)) p22] "ask" q (THeard X.K) := by
  intro f c' s H Q tl act hc h
  have nd : Ng.Nodup := by decide
  refine ⟨_, pss_cons (ps_set (i := 1) nd rfl (Or.inl l1) pe_non rfl (.inr l1)) (pss_cons (ps_try_as (i := 2) (c := .ref (He.ga X.K "WebError")) (Wout := fun _ _ _ _ => False)
    (tb := fun W D σ H => ∃ Ech : XK, (∀ cls d σ' H', Ech cls d H' → σ'.length = 3 → W cls d σ' H') ∧ σ[0]? = some (some (.ref f)) ∧ H c' = some (LamX.CodeO c' q) ∧ tl Ech H (fun v H' => D.nx (σ.set 1 (some v)) H'))
    (ts := tSuite X.K) rfl rfl nd rfl l2 ⟨gw, rfl, .inl mw⟩ LamX.takes0 (fun W pn xe tk _ => ?_) (fun a oe cls d pn hz hf => ?_)) (pss_one (ps_ret (pe_var (i := 1) rfl (.inl l1))))), ?_⟩
  · refine ⟨fun pins s' σ H' D I h' => ?_⟩
    obtain ⟨Ech, hW, h1, h2, h3⟩ := h'
    have hp := act (fun c d σ H => σ.length = 3 → W c d σ H) pn xe Ech p5 p6 (takes_len tk) hW
    exact (pss_one (ps_set (i := 1) nd rfl (Or.inl l1) hp rfl (.inr l1))).run pins s' σ H' D I ⟨h1, h2, h3⟩
  · refine ⟨fun pins s' σ H' Dn I h' => ?_⟩
    obtain ⟨D, b, dd, fs, rfl, C, rfl, hdd, hk, h2, hy, hn⟩ := h'
    have cond := pt_val (pe_callB (p := p10) (pos := p13) (call_isX (X := (cxOf C8.CX0 X.prog X.w X.K X.mg X.base Ng x sg g cdg X.A X.stack s H C8.E0).nox) (a := a) (pn := pn) C hz hf) gi mi (by kernel_rfl) (pa_cons (pe_var (pos := p11) (i := 2) rfl (.inl l2)) (pa_cons (pe_glob (pos := p12) (v := .ref (He.ga X.K "Misfit")) gm mm rfl) pa_nil)))
    cases b with
    | true =>
      obtain ⟨hno, v, hv, hq⟩ := hy rfl
      have part := pe_xf (X := (cxOf C8.CX0 X.prog X.w X.K X.mg X.base Ng x sg g cdg X.A X.stack s H C8.E0).nox) (pos := p15) (a := a) (n := "part") (pn := pn) ⟨C.hg, C.hk, C.hs, C.hd⟩ hno hz hf (pe_var (pos := p14) (i := 2) rfl (.inl l2))
      exact (pss_one (ps_set (i := 1) nd rfl (Or.inl l1) (pe_ifExp cond part pe_str) rfl (.inr l1))).run pins s' σ H' Dn I
        ⟨_, h2, _, _, true, dd, fs, rfl, fun u hu => hu, rfl, hdd, hk, true, rfl, _, h2, rfl, rfl, dd, fs, v, rfl, hdd, hv, hq⟩
    | false =>
      have cst : PE ((cxOf C8.CX0 X.prog X.w X.K X.mg X.base Ng x sg g cdg X.A X.stack s H C8.E0).nox.suite a ((a, oe) :: pn)) (.Attribute (.Name "error" p14) "part" p15) (fun _ _ _ => False) := ⟨fun _ _ _ _ _ _ z => z.elim⟩
      exact (pss_one (ps_set (i := 1) nd rfl (Or.inl l1) (pe_ifExp cond cst pe_str) rfl (.inr l1))).run pins s' σ H' Dn I
        ⟨_, h2, _, _, false, dd, fs, rfl, fun u hu => hu, rfl, hdd, hk, false, rfl, hn rfl⟩
  · refine ⟨Hears X.K Q, fun cls d σ' H' h1 hl => ?_, rfl, hc, ?_⟩
    · obtain ⟨D, b, dd, fs, rfl, hx, C, rfl, hdd, hk, hy, hn⟩ := h1
      refine ⟨true, hx, fun _ a na => ⟨D, b, dd, fs, rfl, C, rfl, hdd, hk, by rw [List.getElem?_set_self (by omega)], fun hb => ?_, fun hb => ?_⟩, fun z => nomatch z⟩
      · obtain ⟨hno, v, hv, hq⟩ := hy hb
        exact ⟨hno, v, hv, v, by rw [List.getElem?_set_ne (by decide), List.getElem?_set_self (by rw [List.length_set]; omega)], hq⟩
      · exact ⟨_, by rw [List.getElem?_set_ne (by decide), List.getElem?_set_self (by rw [List.length_set]; omega)], hn hb⟩
    · refine (congrArg (tl (Hears X.K Q) H) (funext fun v => funext fun H' => propext ⟨fun z => ?_, fun z => ?_⟩)).mpr h
      · obtain ⟨w, e, z⟩ := z
        have e2 : some (some v) = some (some w) := e
        cases e2
        exact z
      · exact ⟨v, rfl, z⟩
end
/-- the facts of the errors that may come -/
structure HearK (K : PySem.W.Frag) (x : Str) : Prop where
  ex : PySem.W.exmOne K (.ref (He.ga K x)) (.ref (He.ga K "WebError")) = some true
  kx : KxC K (He.ga K x)
  no : PySem.W.findIn K (.ref (He.ga K x)) "part" = some none
  ki : PySem.W.kitOne K (.ref (He.ga K x)) (.ref (He.ga K "Misfit")) = some (x == "Misfit")
def hearB (K : PySem.W.Frag) (x : Str) : Bool := decide (PySem.W.exmOne K (.ref (He.ga K x)) (.ref (He.ga K "WebError")) = some true) && (kxB K (He.ga K x) && (decide (PySem.W.findIn K (.ref (He.ga K x)) "part" = some none) && decide (PySem.W.kitOne K (.ref (He.ga K x)) (.ref (He.ga K "Misfit")) = some (x == "Misfit"))))
theorem hearB_ok {K : PySem.W.Frag} {x : Str} (h : hearB K x = true) : HearK K x := by
  unfold hearB at h
  simp only [Bool.and_eq_true, decide_eq_true_eq] at h
  obtain ⟨h1, h2, h3, h4⟩ := h
  exact ⟨h1, kxB_ok h2, h3, h4⟩
/-- the errors that are told apart -/
def errs : List Str := ["BadNumber", "Misfit"]
/-- what is heard -/
def heardR : Res D → Res D
  | .ok d S => .ok d S
  | .err x S => if x.cls ∈ errs then (if x.cls == "Misfit" then (match x.fs.lookup ("part" : Str) with
    | some d => .ok d S
    | none => .stuck) else .ok (.str "other") S) else .stuck
  | .stuck => .stuck
def eHeard (f : Env → M D) : Env → M D := fun ρ S => heardR (f ρ S)
theorem repF_lookup {K : PySem.W.Frag} {as : List Addr} {F : Hp} {x : Str} {d : D} : ∀ {fs : List (Str × D)} {w : List (Str × V)}, RepF K as F fs w → fs.lookup x = some d → ∃ v, w.lookup x = some v ∧ Rep K as F d v
  | _, _, .nil, e => by cases e
  | _, _, .cons (k := k) r t, e => by
    rw [List.lookup_cons] at e
    rw [List.lookup_cons]
    cases q : (x == k) with
    | true => rw [q] at e; cases e; exact ⟨_, rfl, r⟩
    | false => rw [q] at e; exact repF_lookup t e
/-- the tables of the defs that make lambdas -/
structure LamK (K : PySem.W.Frag) (mg : Str → Option Value) (base : Heap) : Prop where
  tb : ∀ x ∈ lamDefs, LamX.TabB base mg (He.codeOf K (x, none)) (tabT K x)
  inj : ∀ x ∈ lamDefs, ∀ y ∈ lamDefs, tabT K x = tabT K y → x = y
def tabL (K : PySem.W.Frag) : List (Addr × Str) := lamDefs.map fun x => (tabT K x, x ++ ".<locals>." ++ "<lambda>")
theorem St0.tabsL {K : PySem.W.Frag} {G : Hp} {as : List Addr} {F H : Hp} {S : Sto} (s : St0 K G as F H S) : LamX.Tabs (tabL K) H := fun p hp => by
  obtain ⟨x, hx, rfl⟩ := List.mem_map.mp hp
  exact s.tabs x hx
/-- a lambda was made -/
theorem St0.tabbed {K : PySem.W.Frag} {G : Hp} {as : List Addr} {F H H1 : Hp} {S : Sto} (s : St0 K G as F H S) (e : LamX.ExtN H H1) (t : LamX.Tabs (tabL K) H1) : St0 K G as F H1 S := by
  have up : ∀ a o, F a = some o → H1 a = some o := fun a o h => e a o (s.sub a o h) fun ps z => s.ntb a ps (by rw [h, z])
  refine ⟨up, fun a o h => e a o (s.keep a o h) fun ps z => s.gtb a ps (by rw [h, z]), s.dis, s.ntb, s.len, fun n o a h1 h2 => ?_, s.nod, fun a ha => ?_, s.gtb, fun x hx => t _ (List.mem_map.mpr ⟨x, hx, rfl⟩)⟩
  · have q := s.locs n o a h1 h2
    cases o with
    | lst ds => obtain ⟨q1, vs, q2, r⟩ := q; exact ⟨q1, vs, e _ _ q2 lst_ntb, r⟩
    | dic ds => obtain ⟨q1, vs, q2, r⟩ := q; exact ⟨q1, vs, e _ _ q2 (fun _ z => nomatch z), r⟩
    | dit ds => obtain ⟨q1, vs, q2, r⟩ := q; exact ⟨q1, vs, e _ _ q2 (fun _ z => nomatch z), r⟩
    | ins C fs => obtain ⟨q1, dx, w, q2, r⟩ := q; exact ⟨q1, dx, w, e _ _ q2 (fun _ z => nomatch z), r⟩
    | dead => trivial
  · obtain ⟨o, h1, h2⟩ := s.occ a ha
    exact ⟨o, e a o h1 h2, h2⟩
end M2

/-! M2l: heard(lambda: e); a law's end -/
namespace M2
open PySem PySem.Spec PyProof.Rows L2

theorem hears_of {K : PySem.W.Frag} {G : Hp} {as : List Addr} {F : Hp} {r : Res D} {Q : VK} {er : Xc → List Addr → Hp → Hp → Sto → Prop} {σ : L2.St} (hk : ∀ x ∈ errs, HearK K x) (h : fin K G as F (heardR r) (eok K Q) er) :
    fin K G as F r (eok K Q) (eer K (ew fun c d _ H => Hears K Q c d H) σ) := by
  cases r with
  | ok d S => exact h
  | stuck => exact h
  | err x S =>
    have h : fin K G as F (if x.cls ∈ errs then (if x.cls == "Misfit" then (match x.fs.lookup ("part" : Str) with
      | some d => .ok d S
      | none => .stuck) else .ok (.str "other") S) else (.stuck : Res D)) (eok K Q) er := h
    split at h
    · rename_i hm
      have q := hk _ hm
      rintro as' F' H' y s c dd ⟨rfl, dx, w, rfl, hw, rw'⟩
      refine ⟨_, _, dx, w, rfl, q.ex, q.kx, rfl, hw, q.ki, fun hb => ?_, fun hb => ?_⟩
      · rw [if_pos hb] at h
        cases e : x.fs.lookup ("part" : Str) with
        | none => rw [e] at h; exact h.elim
        | some d =>
          rw [e] at h
          obtain ⟨v, hv, rv⟩ := repF_lookup rw' e
          exact ⟨q.no, v, hv, h as' F' H' y s v rv⟩
      · rw [if_neg (by rw [hb]; exact Bool.false_ne_true)] at h
        exact h as' F' H' y s _ .str
    · exact h.elim
section
variable {X : Cx} {EW : XW}
/-- heard(lambda: e) -/
theorem pp_heard {hx xd : Str} {k : Nat} {pg : Arguments} {bg : List Stmt} {sg : Scope} {fd : FuncData} {params : Arguments} {body : Expr} {scope : Scope} {f : Env → M D} {p lpos pos : Pos} (F : FunD X.K hx hx pg bg sg [] [] (He.fAd X.K (hx, none)) fd)
    (hG : ∀ cdg, LamX.GivesTo X Ng hx sg (He.ga X.K hx) cdg bg "ask" (X.env.qual ++ "<lambda>") (THeard X.K)) (hk : ∀ x ∈ errs, HearK X.K x) (hg : Gl X hx) (hm : X.mg hx = some (.ref (He.ga X.K hx))) (Sg : FnScope Ng ["ask"] sg) (hva : Vis sg "ask")
    (bd : ∀ (kV doc pm : Value) (an : Option Addr) (cdv ct : Value) (us : List Value), us.length = 1 → bindArgs (PySem.W.fnOf hx hx pg bg sg .none kV doc pm an cdv ct) ⟨us, []⟩ = pure ((["ask"] : List Str).zip us))
    (LK : LamK X.K X.mg X.base) (hxd : xd ∈ lamDefs) (hcode : X.env.code = .ref (He.codeOf X.K (xd, none))) (hq : X.env.qual = xd ++ ".<locals>.") (hr : Room (k + 2) X.A) (L : LamX.LamS X.env.scope scope) (hdef : defaultsOf params X.env = ([], []))
    (hbind : ∀ (q : Str) (cl : List (Str × Addr)) (pm cv ctv : Value), bindArgs (PySem.W.kla_fn "<lambda>" q params body scope cl pm cv ctv) ⟨[], []⟩ = pure [])
    (hbody : ∀ (A : Around) (outer : List PySem.Env) (s : Shared) (H : Hp) (E : XK) (f' c' : Addr), Room k (A.deeper (LamX.lamEnv X scope s.heap.objs.size f' c')) → PP (LamX.lamCx X A outer s H E scope f' c') (ew fun c d _ H => E c d H) body f)
    (hdb : (hx == ("__debug__" : Str)) = false := by decide) : PP X EW (.Call (.Name hx p) [.Lambda params body scope lpos] [] pos) (eHeard f) := by
  have hb : Binds X.K fd ["ask"] [] := F.bindsN fun kV doc pm an cdv ct us hl => bd kV doc pm an cdv ct us hl
  obtain ⟨oc, od, dV, kV, doc, pm, an, cdv, ct, osl, rfl, lk, hci, _, _⟩ := F.ex
  have hu : ∀ p ∈ tabL X.K, p.1 = tabT X.K xd → p.2 = X.env.qual ++ "<lambda>" := fun p hp e => by
    obtain ⟨y, hy, rfl⟩ := List.mem_map.mp hp
    rw [LK.inj y hy xd hxd e, hq]
  refine pe_weak (LamX.pe_lamcall (t := fun E => rdE X.K (ew fun c d _ H => E c d H) f) (T := tabL X.K) (k := k) hg hm F.kp lk hci hb Sg rfl hva (hG cdv) (LK.tb xd hxd) hcode (List.mem_map.mpr ⟨xd, hxd, by rw [hq]⟩) hu hr L hdef hbind hbody hdb) fun σ H Q q => ?_
  obtain ⟨G, as, F', S, ρ, st, sl, q⟩ := q
  exact ⟨st.tabsL, fun H1 e t => ⟨G, as, F', S, ρ, st.tabbed e t, sl, hears_of hk q⟩⟩
end

/-! ### the end of a law -/
/-- what a law's head must tell -/
structure LawM (P : Program) (w : World) (K : PySem.W.Frag) (k n : Nat) (x : Str) (mg : Str → Option Value) (fa : Addr) (h : Heap) (m : List D → M D) : Prop where
  tabE : ∀ y ∈ lamDefs, h.get? (tabT K y) = some { cls := .none, data := .fields #[] }
  tabN : ∀ y ∈ lamDefs, K.lookup (tabT K y) = none
  head : ∀ y ∈ lamDefs, PySem.W.CodeHd h (He.codeOf K (y, none)) (tabT K y)
  nm : mg x = some (.ref fa)
  fn : ∀ base : Heap, K.In base → base.Ns mainGlobals mg → (∀ y ∈ lamDefs, LamX.TabB base mg (He.codeOf K (y, none)) (tabT K y)) → FnM P w K mg base true k x 1 m
  holds : ∀ ns : List Int, ns.length ≤ n → (∀ z ∈ ns, Builtin.Int.intBits z ≤ 1048576) → ∃ S, m [.wls ns] [] = .ok (.bl true) S
section
variable {P : Program} {w : World} {K : PySem.W.Frag} {mg mb : Str → Option Value} {k n : Nat} {fa a : Addr} {x : Str} {m : List D → M D} {s1 : Shared} {vs : List Value} {ns : List Int}
def tabsOf (K : PySem.W.Frag) : List Addr := lamDefs.map (tabT K)
/-- the abstract heap ahead of the law: its list, if it is not the module's; the tables -/
def scrH (K : PySem.W.Frag) (a : Addr) (vs : List Value) (ns : List Int) : Hp := fun b => if b = a ∧ K.lookup a = none then some (.frz { cls := .type "list", data := .seq vs.toArray } (.lst (ns.map V.int))) else none
def lawH (K : PySem.W.Frag) (a : Addr) (vs : List Value) (ns : List Int) : Hp := fun b => if b ∈ tabsOf K then some (.tbl #[]) else scrH K a vs ns b
theorem lawM_run (LM : LawM P w K k n x mg fa s1.heap m) (inK : K.In s1.heap) (gl : s1.heap.Ns mainGlobals mg) (bl : s1.heap.Ns builtinsNs mb) (bb : ∀ y : Str, y ≠ "__name__" → mb y = bootBuiltins y) (lim : s1.heap.NoLimit) (gs : s1.gens = #[])
    (bm : ∃ (c : Addr) (ob : Obj), mg "__builtins__" = some (.ref c) ∧ c ≠ builtinsNs ∧ s1.heap.get? c = some ob ∧ ob.cls = .type "module" ∧ ob.dict = some builtinsNs ∧ ob.data = .plain)
    (scr : s1.heap.get? a = some { cls := .type "list", data := .seq vs.toArray }) (are : IntsAre vs ns) (few : ns.length ≤ n) (small : n ≤ sizeLine) (bits : ∀ z ∈ ns, Builtin.Int.intBits z ≤ 1048576) (room : Room k callerA) :
    codeAny (model P w) callerA (.call (.ref fa) ⟨[.ref a], []⟩) (fun r t => r = .ok (.ret (.bool true)) ∧ OldK s1.heap t.heap ∧ t.os = s1.os ∧ AllBare t.gens) s1 := by
  have tabAt : ∀ b ∈ tabsOf K, s1.heap.get? b = some { cls := .none, data := .fields #[] } := fun b hb => by
    obtain ⟨y, hy, rfl⟩ := List.mem_map.mp hb
    exact LM.tabE y hy
  have notTab : a ∉ tabsOf K := fun z => by
    have e := (tabAt a z).symm.trans scr
    cases e
  have scrAt : ∀ {b u}, scrH K a vs ns b = some u → b = a ∧ K.lookup a = none ∧ u = .frz { cls := .type "list", data := .seq vs.toArray } (.lst (ns.map V.int)) := fun {b u} e => by
    unfold scrH at e
    split at e
    · rename_i q
      exact ⟨q.1, q.2, (Option.some.inj e).symm⟩
    · cases e
  have tblH : ∀ {b}, b ∈ tabsOf K → lawH K a vs ns b = some (.tbl #[]) := fun {b} hb => if_pos hb
  have othH : ∀ {b}, b ∉ tabsOf K → lawH K a vs ns b = scrH K a vs ns b := fun {b} hb => if_neg hb
  have subH : Same (scrH K a vs ns) (lawH K a vs ns) := fun b u e => by
    rw [othH (by rw [(scrAt e).1]; exact notTab)]
    exact e
  have rv := vals_ints are
  have sz : (ns.map V.int).length ≤ sizeLine := by rw [List.length_map]; omega
  have isScr : SqL K (scrH K a vs ns) a (ns.map V.int) := by
    cases e : K.lookup a with
    | none => exact .inl (.inr ⟨{ cls := .type "list", data := .seq vs.toArray }, if_pos ⟨rfl, e⟩⟩)
    | some o =>
      have e2 := (inK a o e).symm.trans scr
      cases e2
      exact .inr ⟨_, vs.toArray, _, e, rfl, rfl, rfl, by rw [List.size_toArray, ← rv.length]; exact sz, by simpa using rv⟩
  -- what stays to be seen when the tracked ones are hidden
  have seen : ∀ {b o}, s1.heap.get? b = some o → (∀ us j, o.data ≠ .seq us j) → o.data ≠ .fields #[] → (hidT s1.heap (lawH K a vs ns)).get? b = some o := fun {b o} e n1 n2 => by
    refine hidT_get e ?_
    have h1 : b ∉ tabsOf K := fun hb => by
      rw [tabAt b hb] at e
      cases e
      exact n2 rfl
    rw [othH h1]
    refine if_neg fun hb => ?_
    rw [hb.1, scr] at e
    cases e
    exact n1 _ _ rfl
  have seenNs : ∀ {b : Addr} {f : Str → Option Value}, s1.heap.Ns b f → (hidT s1.heap (lawH K a vs ns)).Ns b f := fun {b f} ⟨o, es, ep, e, d, r⟩ =>
    ⟨o, es, ep, seen e (fun us j z => by rw [d] at z; cases z) (fun z => by rw [d] at z; cases z), d, r⟩
  have seenK : K.In (hidT s1.heap (lawH K a vs ns)) := fun b o e => by
    refine hidT_get (inK b o e) ?_
    have h1 : b ∉ tabsOf K := fun hb => by
      obtain ⟨y, hy, rfl⟩ := List.mem_map.mp hb
      rw [LM.tabN y hy] at e
      cases e
    rw [othH h1]
    exact if_neg fun hb => by rw [hb.1, hb.2] at e; cases e
  have modl : L2.Mod K mg (hidT s1.heap (lawH K a vs ns)) := ⟨seenK, seenNs gl, ⟨mb, seenNs bl, bb⟩, by obtain ⟨mc, l1, l2⟩ := lim; exact ⟨mc, seenNs l1, l2⟩⟩
  have ready : ∀ y ∈ lamDefs, LamX.TabB (hidT s1.heap (lawH K a vs ns)) mg (He.codeOf K (y, none)) (tabT K y) := fun y hy => by
    have et := LM.tabE y hy
    refine ⟨?_, ?_, fun z => ?_⟩
    · obtain ⟨o, us, file, tf, flags, tg, inF, text, tt, e1, r1, r2, r3, rest⟩ := LM.head y hy
      refine ⟨o, us, file, tf, flags, tg, inF, text, tt, seen e1 (fun _ _ z => by rw [r2] at z; cases z) (fun z => by rw [r2] at z; cases z; simp at r3), r1, r2, r3, rest⟩
    · obtain ⟨c, ob, b1, b2, b3, b4, b5, b6⟩ := bm
      refine ⟨c, ob, b1, b2, fun q => ?_, fun q => ?_, seen b3 (fun _ _ z => by rw [b6] at z; cases z) (fun z => by rw [b6] at z; cases z), b4, b5, b6⟩
      · obtain ⟨o, es, ep, e, hd, _⟩ := gl
        rw [q, e] at b3; cases b3; rw [hd] at b6; cases b6
      · rw [q, et] at b3; cases b3; cases b6
    · obtain ⟨o, es, ep, e, hd, _⟩ := gl
      rw [z, et] at e; cases e; cases hd
  have okH : HOk P w (lawH K a vs ns) s1.heap := fun b u e => by
    by_cases hb : b ∈ tabsOf K
    · rw [tblH hb] at e; cases e; exact tabAt b hb
    · rw [othH hb] at e
      obtain ⟨rfl, _, rfl⟩ := scrAt e
      exact ⟨scr, sz, vs, _, rv, scr⟩
  have st : St0 K (fun _ => none) [] (scrH K a vs ns) (lawH K a vs ns) [] := by
    refine ⟨subH, fun _ _ e => (nomatch e), fun _ _ e => (nomatch e), fun b ps e => ?_, rfl, fun _ _ _ e => (nomatch (show (none : Option O) = some _ from e)), List.nodup_nil, fun _ z => (nomatch z), fun _ _ e => (nomatch e), fun y hy => .nil (tblH (List.mem_map.mpr ⟨y, hy, rfl⟩))⟩
    obtain ⟨_, _, q⟩ := scrAt e
    cases q
  obtain ⟨f, fd, ps, hl, hm, _, hb, hF⟩ := (LM.fn _ seenK (seenNs gl) ready).ex
  have ef : f = fa := by
    have e := hm.symm.trans LM.nm
    cases e; rfl
  subst ef
  have bind := hb s1 [.ref a] inK (by rw [hl]; rfl)
  rw [List.append_nil] at bind
  obtain ⟨S', hS⟩ := LM.holds ns few bits
  have env : Env0 P w K mg (hidT s1.heap (lawH K a vs ns)) callerA [] s1 (lawH K a vs ns) := ⟨rfl, modl, fun _ _ e => of_hidT e, by rw [hidT_size]; exact Nat.le_refl _, trivial, fun b z => (nomatch (show b ∈ ([] : List Addr) from z)), okH, .of_eq gs⟩
  have go := hF.run callerA [] s1 (lawH K a vs ns) ⟨[.ref a], []⟩ [.ref a] [.ref a] (fun v _ => v = .bl true) (fun _ _ _ => False) room (fun _ => rfl) env bind (.cons rfl .nil) hl.symm
    ⟨_, [], _, [], [.wls ns], st, .cons (.wls isScr) .nil, by rw [hS]; exact fun as' F' H' _ _ v r => by cases r; rfl⟩
  refine codeAny_mono go fun r t hr => ?_
  match r, hr with
  | .error e, hr =>
    obtain ⟨_, _, _, _, _, _, _, _, _, _, _, _, z⟩ := hr
    exact z.elim
  | .ok (.ret u), hr =>
    obtain ⟨v, H', os, bare, un, ok', ru, rfl⟩ := hr
    cases (show u = Value.bool true from ru)
    have kept : ∀ b o, b ∉ tabsOf K → s1.heap.get? b = some o → t.heap.get? b = some o := fun b o nb e => by
      cases q : scrH K a vs ns b with
      | none => exact un.keep b o e (by rw [othH nb, q]) (fun z => (nomatch (show b ∈ ([] : List Addr) from z))) (fun z => (nomatch z))
      | some u =>
        obtain ⟨rfl, _, rfl⟩ := scrAt q
        have z := un.frzs b _ _ (subH _ _ q)
        obtain ⟨e2, _⟩ := ok' b _ z
        rw [scr] at e; cases e
        exact e2
    have grow : ∀ b ∈ tabsOf K, ∃ more : Array Value, t.heap.get? b = some { cls := .none, data := .fields more } := fun b hb => by
      obtain ⟨more, z⟩ := un.tbls b #[] (tblH hb)
      exact ⟨_, ok' b _ z⟩
    refine ⟨rfl, ⟨fun b o e => ?_, fun b o e => ?_⟩, os, bare⟩
    · by_cases hb : b ∈ tabsOf K
      · obtain ⟨more, hm⟩ := grow b hb
        have e1 := tabAt b hb
        obtain ⟨y, hy, rfl⟩ := List.mem_map.mp hb
        rw [e1] at e; cases e
        exact .inr (.inl ⟨((LM.head y hy).tab e1).isCodeTable, rfl, #[], more, rfl, by rw [Array.empty_append]; exact hm⟩)
      · exact .inl (kept b o hb e)
    · by_cases hb : b ∈ tabsOf K
      · obtain ⟨more, hm⟩ := grow b hb
        exact ⟨_, hm⟩
      · exact ⟨o, kept b o hb e⟩
  | .ok .next, hr => exact hr.elim
  | .ok .brk, hr => exact hr.elim
  | .ok .cont, hr => exact hr.elim
end
/-- a law over a head -/
theorem lawM_walk {l : PySem.W.OpenLaw} {n k : Nat} {q : Program} {loose : List Str} {XP : (Str → Option Value) → Heap → Prop} {YP : World → Heap → Prop} {d : DefRec} {x : Str} {m : List D → M D} (most : l.most = some n) (small : n ≤ sizeLine) (nodf : d.params.defaults = []) (room : Room k callerA)
    (F : ∀ (w : World) (mg : Str → Option Value) (fa : Addr) (h : Heap), YP w h → h.Ns mainGlobals mg → mg d.name = some (.ref fa) → ∃ K : PySem.W.Frag, K.In h ∧ LawM l.prog w K k n x mg fa h m) :
    PySem.W.WalkO q loose XP YP l.row.toRowW d [] (fun f vs => PySem.call f vs) :=
  Att.attach_callB most nodf fun w _ s1 mg mb fa _ _ _ _ a vs ns G Y _ _ _ hmg hobj are few bits gs => by
    obtain ⟨K, inK, LM⟩ := F w mg fa _ Y G.T.g hmg
    exact lawM_run LM inK G.T.g G.T.b G.T.builtins G.T.nolimit gs G.T.bmain hobj are few small bits room
end M2

/-! M2m: words for the printed derivations -/
namespace M2
open PySem PySem.Spec PyProof.Rows L2

theorem b_len : bootBuiltins "len" = some (.builtin "len") := by kernel_rfl
theorem b_abs : bootBuiltins "abs" = some (.builtin "abs") := by kernel_rfl
theorem b_max : bootBuiltins "max" = some (.builtin "max") := by kernel_rfl
theorem b_min : bootBuiltins "min" = some (.builtin "min") := by kernel_rfl
theorem b_sum : bootBuiltins "sum" = some (.builtin "sum") := by kernel_rfl
theorem b_all : bootBuiltins "all" = some (.builtin "all") := by kernel_rfl
theorem b_any : bootBuiltins "any" = some (.builtin "any") := by kernel_rfl
theorem b_repr : bootBuiltins "repr" = some (.builtin "repr") := by kernel_rfl
theorem b_isinstance : bootBuiltins "isinstance" = some (.builtin "isinstance") := by kernel_rfl
theorem b_int : bootBuiltins "int" = some (.type "int") := by kernel_rfl
theorem b_bool : bootBuiltins "bool" = some (.type "bool") := by kernel_rfl
theorem b_str : bootBuiltins "str" = some (.type "str") := by kernel_rfl
theorem b_list : bootBuiltins "list" = some (.type "list") := by kernel_rfl
theorem b_tuple : bootBuiltins "tuple" = some (.type "tuple") := by kernel_rfl
/-- the scope of a def -/
theorem scopeOf {N ps : List Str} {sc : Scope} (h : (decide (sc.kind = .function) && !sc.isCoroutine && !sc.isGenerator && decide N.Nodup && decide (N.take ps.length = ps) && (ps.all fun x => decide (sc.names.lookup x = some .local) || decide (sc.names.lookup x = some .cell)) && sc.names.all fun y => !decide (y.2 = .free)) = true) : FnScope N ps sc := by
  simp only [Bool.and_eq_true, decide_eq_true_eq, Bool.not_eq_true', List.all_eq_true, Bool.or_eq_true, decide_eq_false_iff_not] at h
  obtain ⟨⟨⟨⟨⟨⟨h1, h2⟩, h3⟩, h4⟩, h5⟩, h6⟩, h7⟩ := h
  exact ⟨h1, h2, h3, h4, h5, h6, h7⟩
/-- the names of a comprehension -/
def blkB (N : List Str) (sc scope : Scope) (own : List (Str × Nat)) : Bool := decide (scope.kind = .function) && (scope.names.all fun y => decide (scope.names.lookup y.1 = some y.2)) && (own.all fun p => decide (N[p.2]? = some p.1)) &&
  (scope.names.all fun y => !decide (y.2 = .free) || decide (sc.names.lookup y.1 = some .cell) || decide (sc.names.lookup y.1 = some .free)) && (scope.names.all fun y => (!decide (y.2 = .local) && !decide (y.2 = .cell)) || decide (y.1 ∈ own.map (·.1)) || !decide (y.1 ∈ N))
theorem blkOf {N : List Str} {sc scope : Scope} {own : List (Str × Nat)} (h : blkB N sc scope own = true) : BlkOk N sc scope own := by
  unfold blkB at h
  simp only [Bool.and_eq_true, decide_eq_true_eq, Bool.not_eq_true', List.all_eq_true, Bool.or_eq_true, decide_eq_false_iff_not] at h
  obtain ⟨⟨⟨⟨h1, h2⟩, h3⟩, h4⟩, h5⟩ := h
  refine ⟨h1, h2, h3, fun y hy e => ?_, fun y hy e => ?_⟩
  · rcases h4 y hy with (z | z) | z
    · exact absurd e z
    · exact .inl z
    · exact .inr z
  · rcases h5 y hy with (⟨z1, z2⟩ | z) | z
    · rcases e with e | e
      · exact absurd e z1
      · exact absurd e z2
    · exact .inl z
    · exact .inr z
/-- for the printed slots -/
theorem slots_sub {l m : List Nat} (h : (l.all fun i => decide (i ∈ m)) = true) : ∀ i ∈ l, i ∈ m := fun i hi => of_decide_eq_true (List.all_eq_true.mp h i hi)
end M2

namespace M2
open PySem PySem.Spec PyProof.Rows L2
/-! the mirrors -/
noncomputable def m_is_integer : List D → M D := runDef 1 0 (bRet (eAnd (eB kIsi (qCons (eVar 0) (qCons (eC (.ty "int")) qNil))) (eNot (eB kIsi (qCons (eVar 0) (qCons (eC (.ty "bool")) qNil))))))
noncomputable def m_is_within : List D → M D := runDef 3 0 (bSeq (bIf (bOr (bNot (bOf (eCall 1 m_is_integer (qCons (eVar 0) qNil)))) (bAnd (bOf (eOp kNotN (eVar 1) (eC .non))) (bOf (eOp kLt (eVar 0) (eVar 1))))) (bRet (eC (.bl false))) bNil) (bRet (eOr (eOp kIsN (eVar 2) (eC .non)) (eOp kLe (eVar 0) (eVar 2)))))
noncomputable def m_are_numbers : List D → M D := runDef 2 0 (bRet (eAnd (eB kIsiT (qCons (eVar 0) (qCons (eTup (qCons (eC (.ty "list")) (qCons (eC (.ty "tuple")) qNil))) qNil))) (eB kAll (qCons (eFrz (fLc (iSeq (eVar 0)) (.nm 1) tYesB (eCall 1 m_is_integer (qCons (eVar 1) qNil)) [1])) qNil))))
noncomputable def m_need_number : List D → M D := runDef 4 0 (bIf (bNot (bOf (eCall 3 m_is_within (qCons (eVar 0) (qCons (eVar 2) (qCons (eVar 3) qNil)))))) (bRaise "BadNumber" "part" (qCons (eVar 1) qNil)) bNil)
noncomputable def m_are_some : List D → M D := runDef 1 0 (bRet (eAnd (eCall 1 m_are_numbers (qCons (eVar 0) qNil)) (eChain kLe kLe (eC (.int 2)) (eB kLen (qCons (eVar 0) qNil)) (eC (.int 25)))))
noncomputable def m_need_polynomial : List D → M D := runDef 1 0 (bIf (bOr (bNot (bOf (eCall 1 m_are_some (qCons (eVar 0) qNil)))) (bOf (eOp kNe (eOp kIx (eVar 0) (eUn kNeg (eC (.int 1)))) (eC (.int 1))))) (bRaise "BadNumber" "part" (qCons (eC (.str "polynomial")) qNil)) bNil)
noncomputable def m_newton : List D → M D := runDef 6 0 (bSeq (bSet 1 (eLoc (fLst (qCons (eC (.int 1)) qNil)))) (bSeq (bFor (iB kRange2 (qCons (eC (.int 1)) (qCons (eB kLen (qCons (eVar 0) qNil)) qNil))) (.nm 2) (bSeq (bSet 3 (eB kSum (qCons (eFrz (fLc (iB kEnum (qCons (eVar 1) qNil)) (.tp [(.nm 4), (.nm 5)]) tYesB (eOp kMul (eOp kIx (eVar 0) (eOp kSub (eVar 2) (eVar 4))) (eVar 5)) [4, 5])) qNil))) (bSeq (bIf (bOf (eOp kNe (eOp kMod (eVar 3) (eVar 2)) (eC (.int 0)))) (bRet (eC .non)) bNil) (bExp (eMt kAppend (eVar 1) (qCons (eOp kFdiv (eUn kNeg (eVar 3)) (eVar 2)) qNil)))))) (bRet (eB kTuple (qCons (eFrz (fUn kRevL (eVar 1))) qNil)))))
noncomputable def m_next_length : List D → M D := runDef 5 0 (bSeq (bSet 2 (eB kLen (qCons (eVar 1) qNil))) (bSeq (bSet 3 (eIf (bOf (eOp kLt (eVar 2) (eB kLen (qCons (eVar 0) qNil)))) (eOp kMul (eVar 2) (eOp kIx (eVar 0) (eVar 2))) (eC (.int 0)))) (bRet (eOp kSub (eUn kNeg (eVar 3)) (eB kSum (qCons (eFrz (fLc (iB kRange2 (qCons (eC (.int 1)) (qCons (eB kMin2 (qCons (eVar 2) (qCons (eB kLen (qCons (eVar 0) qNil)) qNil))) qNil))) (.nm 4) tYesB (eOp kMul (eOp kIx (eVar 0) (eVar 4)) (eOp kIx (eVar 1) (eOp kSub (eVar 2) (eVar 4)))) [4])) qNil))))))
noncomputable def m_lengths_of : List D → M D := runDef 4 0 (bSeq (bPar 2 3 (qCons (eFrz (fUn kRevL (eVar 0))) (qCons (eLoc (fLst (qCons (eOp kSub (eB kLen (qCons (eVar 0) qNil)) (eC (.int 1))) qNil))) qNil))) (bSeq (whileL (bOf (eOp kLt (eB kLen (qCons (eVar 3) qNil)) (eVar 1))) (bExp (eMt kAppend (eVar 3) (qCons (eCall 2 m_next_length (qCons (eVar 2) (qCons (eVar 3) qNil))) qNil))) 120) (bRet (eFrz (fSl (eVar 3) none (some (eVar 1)))))))
noncomputable def m_traces_from : List D → M D := runDef 2 0 (bSeq (bExp (eCall 1 m_need_polynomial (qCons (eVar 0) qNil))) (bSeq (bExp (eCall 4 m_need_number (qCons (eVar 1) (qCons (eC (.str "many")) (qCons (eC (.int 0)) (qCons (eC (.int 100)) qNil)))))) (bRet (eB kTuple (qCons (eCall 2 m_lengths_of (qCons (eFrz (fB kList (qCons (eVar 0) qNil))) (qCons (eVar 1) qNil))) qNil)))))
noncomputable def m_polynomial_from : List D → M D := runDef 2 0 (bSeq (bIf (bOr (bNot (bOf (eCall 1 m_are_some (qCons (eVar 0) qNil)))) (bOf (eOp kNe (eOp kIx (eVar 0) (eC (.int 0))) (eOp kSub (eB kLen (qCons (eVar 0) qNil)) (eC (.int 1)))))) (bRaise "BadNumber" "part" (qCons (eC (.str "traces")) qNil)) bNil) (bSeq (bSet 1 (eCall 1 m_newton (qCons (eVar 0) qNil))) (bSeq (bIf (bOf (eOp kIsN (eVar 1) (eC .non))) (bRaise "Misfit" "part" (qCons (eC (.str "traces")) qNil)) bNil) (bRet (eVar 1)))))
noncomputable def m__law_jar : List D → M D := runDef 2 1 (bRet (eLoc (fLst (qCons (eFrz (fLc (iSeq (eFrz (fSl (eVar 0) none (some (eC (.int 58)))))) (.nm 1) tYesB (eB kInt (qCons (eVar 1) qNil)) [1])) (qCons (eC (.int 0)) (qCons (eC (.int 0)) qNil))))))
noncomputable def m__law_lot : List D → M D := runDef 6 0 (bSeq (bIf (bOf (eOp kGt (eOp kIx (eVar 0) (eC (.int 2))) (eC (.int 0)))) (bSeq (bSet 2 (eOp kIx (eVar 0) (eC (.int 2)))) (bSeq (bSetIx (eVar 0) (eC (.int 2)) (eOp kFdiv (eB kInt (qCons (eVar 2) qNil)) (eVar 1))) (bRet (eOp kMod (eB kInt (qCons (eVar 2) qNil)) (eVar 1))))) bNil) (bSeq (bSet 3 (eOp kIx (eVar 0) (eC (.int 1)))) (bSeq (bSetIx (eVar 0) (eC (.int 1)) (eOp kAdd (eVar 3) (eC (.int 1)))) (bSeq (bSet 4 (eOp kAdd (eOp kMul (eC (.int 61007)) (eVar 3)) (eC (.int 4007)))) (bSeq (bIf (bOf (eOp kNe (eOp kIx (eVar 0) (eC (.int 0))) (eFrz (fLst qNil)))) (bSet 4 (eOp kIx (eOp kIx (eVar 0) (eC (.int 0))) (eOp kMod (eB kInt (qCons (eVar 3) qNil)) (eB kLen (qCons (eOp kIx (eVar 0) (eC (.int 0))) qNil))))) bNil) (bSeq (bIf (bAnd (bOf (eOp kLt (eVar 3) (eB kLen (qCons (eOp kIx (eVar 0) (eC (.int 0))) qNil)))) (bOf (eOp kGe (eB kAbs (qCons (eVar 4) qNil)) (eOp kPow (eC (.int 10)) (eC (.int 18)))))) (bSeq (bSet 2 (eOp kAdd (eOp kMul (eC (.int 2)) (eOp kSub (eB kAbs (qCons (eVar 4) qNil)) (eOp kPow (eC (.int 10)) (eC (.int 18))))) (eB kInt (qCons (eOp kLt (eVar 4) (eC (.int 0))) qNil)))) (bSeq (bSetIx (eVar 0) (eC (.int 2)) (eOp kFdiv (eB kInt (qCons (eVar 2) qNil)) (eVar 1))) (bRet (eOp kMod (eB kInt (qCons (eVar 2) qNil)) (eVar 1))))) bNil) (bSeq (bSet 5 (eOp kMod (eB kInt (qCons (eOp kPow (eOp kAdd (eOp kAdd (eOp kMod (eB kInt (qCons (eVar 4) qNil)) (eC (.int 2147483563))) (eOp kMul (eC (.int 71023)) (eVar 3))) (eC (.int 4007))) (eC (.int 5))) qNil)) (eC (.int 2147483549)))) (bSeq (bSet 5 (eOp kMod (eB kInt (qCons (eOp kPow (eOp kAdd (eOp kAdd (eOp kMul (eVar 5) (eOp kAdd (eOp kMul (eC (.int 2)) (eVar 3)) (eC (.int 4007)))) (eOp kMul (eOp kMul (eC (.int 61007)) (eVar 3)) (eVar 3))) (eC (.int 71023))) (eC (.int 3))) qNil)) (eC (.int 2147483579)))) (bRet (eOp kMod (eB kInt (qCons (eOp kFdiv (eVar 5) (eC (.int 32))) qNil)) (eVar 1)))))))))))
noncomputable def m__law_take : List D → M D := runDef 2 0 (bRet (eOp kIx (eVar 1) (eCall 2 m__law_lot (qCons (eVar 0) (qCons (eB kLen (qCons (eVar 1) qNil)) qNil)))))
noncomputable def m__law_times : List D → M D := runDef 7 0 (bSeq (bSet 2 (eLoc (fOp kRep (eFrz (fLst (qCons (eC (.int 0)) qNil))) (eOp kSub (eOp kAdd (eB kLen (qCons (eVar 0) qNil)) (eB kLen (qCons (eVar 1) qNil))) (eC (.int 1)))))) (bSeq (bFor (iB kEnum (qCons (eVar 0) qNil)) (.tp [(.nm 3), (.nm 4)]) (bFor (iB kEnum (qCons (eVar 1) qNil)) (.tp [(.nm 5), (.nm 6)]) (bSetIx (eVar 2) (eOp kAdd (eVar 3) (eVar 5)) (eOp kAdd (eOp kIx (eVar 2) (eOp kAdd (eVar 3) (eVar 5))) (eOp kMul (eVar 4) (eVar 6)))))) (bRet (eVar 2))))
noncomputable def m__law_powers : List D → M D := runDef 7 0 (bSeq (bPar 2 3 (qCons (eLoc (fLst qNil)) (qCons (eFrz (fOp kRep (eFrz (fLst (qCons (eC (.int 1)) qNil))) (eB kLen (qCons (eVar 0) qNil)))) qNil))) (bSeq (bFor (iB kRange1 (qCons (eVar 1) qNil)) (.nm 4) (bSeq (bExp (eMt kAppend (eVar 2) (qCons (eB kSum (qCons (eVar 3) qNil)) qNil))) (bSetF 3 (fLc (iB kZip (qCons (eVar 3) (qCons (eVar 0) qNil))) (.tp [(.nm 5), (.nm 6)]) tYesB (eOp kMul (eVar 5) (eVar 6)) [5, 6])))) (bRet (eB kTuple (qCons (eVar 2) qNil)))))
noncomputable def m__law_product_right : List D → M D := runDef 6 0 (bSeq (bSetF 1 (fLc (iB kRange1 (qCons (eCall 2 m__law_take (qCons (eVar 0) (qCons (eFrz (fLst (qCons (eC (.int 3)) (qCons (eC (.int 2)) (qCons (eC (.int 4)) (qCons (eC (.int 1)) (qCons (eC (.int 6)) (qCons (eC (.int 8)) qNil)))))))) qNil))) qNil)) (.nm 2) tYesB (eOp kSub (eCall 2 m__law_lot (qCons (eVar 0) (qCons (eC (.int 13)) qNil))) (eC (.int 6))) [2])) (bSeq (bSet 3 (eFrz (fLst (qCons (eC (.int 1)) qNil)))) (bSeq (bFor (iSeq (eVar 1)) (.nm 4) (bSet 3 (eCall 2 m__law_times (qCons (eVar 3) (qCons (eFrz (fLst (qCons (eUn kNeg (eVar 4)) (qCons (eC (.int 1)) qNil)))) qNil))))) (bSeq (bSet 5 (eOp kAdd (eB kLen (qCons (eVar 1) qNil)) (eC (.int 6)))) (bSeq (bIf (bOf (eOp kNe (eB kRepr (qCons (eCall 2 m_traces_from (qCons (eVar 3) (qCons (eVar 5) qNil))) qNil)) (eB kRepr (qCons (eCall 2 m__law_powers (qCons (eVar 1) (qCons (eVar 5) qNil))) qNil)))) (bRet (eC (.bl false))) bNil) (bRet (eOp kEq (eB kRepr (qCons (eCall 1 m_polynomial_from (qCons (eFrz (fB kList (qCons (eCall 2 m__law_powers (qCons (eVar 1) (qCons (eOp kAdd (eB kLen (qCons (eVar 1) qNil)) (eC (.int 1))) qNil))) qNil))) qNil)) qNil)) (eB kRepr (qCons (eB kTuple (qCons (eVar 3) qNil)) qNil)))))))))
noncomputable def m__law_any_right : List D → M D := runDef 10 0 (bSeq (bSet 1 (eFrz (fOp kCat (eFrz (fLc (iB kRange1 (qCons (eOp kAdd (eC (.int 1)) (eCall 2 m__law_lot (qCons (eVar 0) (qCons (eC (.int 6)) qNil)))) qNil)) (.nm 2) tYesB (eOp kSub (eCall 2 m__law_lot (qCons (eVar 0) (qCons (eC (.int 41)) qNil))) (eC (.int 20))) [2])) (eFrz (fLst (qCons (eC (.int 1)) qNil)))))) (bSeq (bSet 3 (eFrz (fOp kCat (eFrz (fLc (iB kRange1 (qCons (eOp kAdd (eC (.int 1)) (eCall 2 m__law_lot (qCons (eVar 0) (qCons (eC (.int 4)) qNil)))) qNil)) (.nm 2) tYesB (eOp kSub (eCall 2 m__law_lot (qCons (eVar 0) (qCons (eC (.int 9)) qNil))) (eC (.int 4))) [2])) (eFrz (fLst (qCons (eC (.int 1)) qNil)))))) (bSeq (bFor (iSeq (eTup (qCons (eVar 1) (qCons (eVar 3) qNil)))) (.nm 4) (bIf (bOf (eOp kNe (eCall 1 m_polynomial_from (qCons (eCall 2 m_traces_from (qCons (eVar 4) (qCons (eB kLen (qCons (eVar 4) qNil)) qNil))) qNil)) (eB kTuple (qCons (eVar 4) qNil)))) (bRet (eC (.bl false))) bNil)) (bSeq (bPar 5 6 (qCons (eCall 2 m__law_times (qCons (eVar 1) (qCons (eVar 3) qNil))) (qCons (eOp kAdd (eOp kAdd (eB kLen (qCons (eVar 1) qNil)) (eB kLen (qCons (eVar 3) qNil))) (eC (.int 3))) qNil))) (bSeq (bSet 7 (eB kTuple (qCons (eFrz (fLc (iB kZip (qCons (eCall 2 m_traces_from (qCons (eVar 1) (qCons (eVar 6) qNil))) (qCons (eCall 2 m_traces_from (qCons (eVar 3) (qCons (eVar 6) qNil))) qNil))) (.tp [(.nm 8), (.nm 9)]) tYesB (eOp kAdd (eVar 8) (eVar 9)) [8, 9])) qNil))) (bRet (eAnd (eOp kEq (eCall 2 m_traces_from (qCons (eVar 5) (qCons (eVar 6) qNil))) (eVar 7)) (eOp kEq (eCall 2 m_traces_from (qCons (eB kTuple (qCons (eVar 5) qNil)) (qCons (eOp kSub (eVar 6) (eC (.int 4))) qNil))) (eSlT (eVar 7) none (some (eOp kSub (eVar 6) (eC (.int 4)))))))))))))
noncomputable def m__law_few_right : List D → M D := runDef 8 0 (bSeq (bAsg (.tp [(.nm 1), (.nm 2), (.nm 3)]) (eTup (qCons (eOp kSub (eCall 2 m__law_lot (qCons (eVar 0) (qCons (eC (.int 9)) qNil))) (eC (.int 4))) (qCons (eOp kSub (eCall 2 m__law_lot (qCons (eVar 0) (qCons (eC (.int 19)) qNil))) (eC (.int 9))) (qCons (eOp kSub (eCall 2 m__law_lot (qCons (eVar 0) (qCons (eC (.int 41)) qNil))) (eC (.int 20))) qNil))))) (bSeq (bPar 4 5 (qCons (eOp kSub (eOp kMul (eVar 1) (eVar 1)) (eVar 2)) (qCons (eOp kAdd (eOp kSub (eOp kMul (eOp kMul (eVar 1) (eVar 1)) (eVar 1)) (eOp kMul (eOp kMul (eC (.int 3)) (eVar 1)) (eVar 2))) (eOp kMul (eC (.int 2)) (eVar 3))) qNil))) (bSeq (bSet 6 (eIf (bOf (eOp kEq (eOp kMod (eB kInt (qCons (eVar 4) qNil)) (eC (.int 2))) (eC (.int 0)))) (eTup (qCons (eB kInt (qCons (eOp kFdiv (eVar 4) (eC (.int 2))) qNil)) (qCons (eUn kNeg (eVar 1)) (qCons (eC (.int 1)) qNil)))) (eC (.str "traces")))) (bSeq (bIf (bOr (bOf (eOp kNe (eHeard (eCall 1 m_polynomial_from (qCons (eFrz (fLst (qCons (eC (.int 2)) (qCons (eVar 1) (qCons (eVar 2) qNil))))) qNil))) (eVar 6))) (bOf (eOp kNe (eCall 1 m_polynomial_from (qCons (eTup (qCons (eC (.int 1)) (qCons (eVar 1) qNil))) qNil)) (eTup (qCons (eUn kNeg (eVar 1)) (qCons (eC (.int 1)) qNil)))))) (bRet (eC (.bl false))) bNil) (bSeq (bSet 7 (eAnd (eOp kEq (eOp kMod (eB kInt (qCons (eVar 4) qNil)) (eC (.int 2))) (eC (.int 0))) (eOp kEq (eOp kMod (eB kInt (qCons (eVar 5) qNil)) (eC (.int 6))) (eC (.int 0))))) (bSeq (bSet 6 (eIf (bOf (eVar 7)) (eTup (qCons (eUn kNeg (eB kInt (qCons (eOp kFdiv (eVar 5) (eC (.int 6))) qNil))) (qCons (eB kInt (qCons (eOp kFdiv (eVar 4) (eC (.int 2))) qNil)) (qCons (eUn kNeg (eVar 1)) (qCons (eC (.int 1)) qNil))))) (eC (.str "traces")))) (bRet (eOp kEq (eHeard (eCall 1 m_polynomial_from (qCons (eFrz (fLst (qCons (eC (.int 3)) (qCons (eVar 1) (qCons (eVar 2) (qCons (eVar 3) qNil)))))) qNil))) (eVar 6)))))))))
noncomputable def m_law : List D → M D := runDef 7 0 (bSeq (bSet 1 (eCall 1 m__law_jar (qCons (eVar 0) qNil))) (bSeq (bFor (iB kRange1 (qCons (eC (.int 4)) qNil)) (.nm 2) (bSeq (bIf (bOr (bNot (bOf (eCall 1 m__law_product_right (qCons (eVar 1) qNil)))) (bOr (bNot (bOf (eCall 1 m__law_any_right (qCons (eVar 1) qNil)))) (bNot (bOf (eCall 1 m__law_few_right (qCons (eVar 1) qNil)))))) (bRet (eC (.bl false))) bNil) (bSeq (bSet 3 (eFrz (fOp kCat (eFrz (fLst (qCons (eC (.int 4)) qNil))) (eFrz (fLc (iB kRange1 (qCons (eC (.int 4)) qNil)) (.nm 4) tYesB (eOp kSub (eCall 2 m__law_lot (qCons (eVar 1) (qCons (eC (.int 17)) qNil))) (eC (.int 8))) [4]))))) (bSeq (bSet 5 (eHeard (eCall 1 m_polynomial_from (qCons (eVar 3) qNil)))) (bSeq (bIf (bOr (bAnd (bOf (eB kIsi (qCons (eVar 5) (qCons (eC (.ty "tuple")) qNil)))) (bOr (bOf (eOp kNe (eOp kIx (eVar 5) (eUn kNeg (eC (.int 1)))) (eC (.int 1)))) (bOf (eOp kNe (eCall 2 m_traces_from (qCons (eVar 5) (qCons (eC (.int 5)) qNil))) (eB kTuple (qCons (eVar 3) qNil)))))) (bOf (eOp kEq (eVar 5) (eC (.str "other"))))) (bRet (eC (.bl false))) bNil) (bSeq (bSet 6 (eFrz (fLst (qCons (eC (.int 4)) (qCons (eC (.int 0)) (qCons (eOp kMul (eC (.int 2)) (eCall 2 m__law_lot (qCons (eVar 1) (qCons (eC (.int 5)) qNil)))) (qCons (eC (.int 0)) qNil))))))) (bIf (bOf (eOp kEq (eHeard (eCall 1 m_polynomial_from (qCons (eFrz (fOp kCat (eVar 6) (eFrz (fLst (qCons (eOp kAdd (eOp kFdiv (eOp kMul (eOp kIx (eVar 6) (eC (.int 2))) (eOp kIx (eVar 6) (eC (.int 2)))) (eC (.int 2))) (eOp kMul (eC (.int 4)) (eCall 2 m__law_lot (qCons (eVar 1) (qCons (eC (.int 3)) qNil))))) qNil))))) qNil))) (eC (.str "traces")))) (bRet (eC (.bl false))) bNil))))))) (bSeq (bIf (bOf (eOp kNe (eCall 2 m_traces_from (qCons (eFrz (fLst (qCons (eC (.int 2)) (qCons (eUn kNeg (eC (.int 1))) (qCons (eUn kNeg (eC (.int 2))) (qCons (eC (.int 1)) qNil)))))) (qCons (eC (.int 100)) qNil))) (eCall 2 m__law_powers (qCons (eFrz (fLst (qCons (eC (.int 1)) (qCons (eUn kNeg (eC (.int 1))) (qCons (eC (.int 2)) qNil))))) (qCons (eC (.int 100)) qNil))))) (bRet (eC (.bl false))) bNil) (bRet (eAnd (eOp kEq (eOp kIx (eCall 2 m_traces_from (qCons (eFrz (fLst (qCons (eUn kNeg (eC (.int 1))) (qCons (eUn kNeg (eC (.int 1))) (qCons (eC (.int 1)) qNil))))) (qCons (eC (.int 40)) qNil))) (eC (.int 39))) (eC (.int 141422324))) (eOp kEq (eCall 2 m_traces_from (qCons (eFrz (fLst (qCons (eC (.int 0)) (qCons (eC (.int 1)) qNil)))) (qCons (eC (.int 3)) qNil))) (eTup (qCons (eC (.int 1)) (qCons (eC (.int 0)) (qCons (eC (.int 0)) qNil))))))))))
end M2

namespace M2
open PySem PySem.Spec PyProof.Rows L2
/-! the derivations -/
def top (i : Nat) : Stmt := PySem.Challenge.pw_littlewebs_k32_closed_walks_there_and_ba.main.body.getD i (.Pass ⟨0, 0, 0, 0⟩)
structure Facts (P : Program) (w : World) (K : PySem.W.Frag) (mg : Str → Option Value) (base : Heap) : Prop where
  g_is_integer : mg "is_integer" = some (.ref (He.ga K "is_integer"))
  g_is_within : mg "is_within" = some (.ref (He.ga K "is_within"))
  g_are_numbers : mg "are_numbers" = some (.ref (He.ga K "are_numbers"))
  g_need_number : mg "need_number" = some (.ref (He.ga K "need_number"))
  g_are_some : mg "are_some" = some (.ref (He.ga K "are_some"))
  g_need_polynomial : mg "need_polynomial" = some (.ref (He.ga K "need_polynomial"))
  g_newton : mg "newton" = some (.ref (He.ga K "newton"))
  g_next_length : mg "next_length" = some (.ref (He.ga K "next_length"))
  g_lengths_of : mg "lengths_of" = some (.ref (He.ga K "lengths_of"))
  g_traces_from : mg "traces_from" = some (.ref (He.ga K "traces_from"))
  g_polynomial_from : mg "polynomial_from" = some (.ref (He.ga K "polynomial_from"))
  g__law_jar : mg "_law_jar" = some (.ref (He.ga K "_law_jar"))
  g__law_lot : mg "_law_lot" = some (.ref (He.ga K "_law_lot"))
  g__law_take : mg "_law_take" = some (.ref (He.ga K "_law_take"))
  g__law_times : mg "_law_times" = some (.ref (He.ga K "_law_times"))
  g__law_powers : mg "_law_powers" = some (.ref (He.ga K "_law_powers"))
  g__law_heard : mg "_law_heard" = some (.ref (He.ga K "_law_heard"))
  g__law_product_right : mg "_law_product_right" = some (.ref (He.ga K "_law_product_right"))
  g__law_any_right : mg "_law_any_right" = some (.ref (He.ga K "_law_any_right"))
  g__law_few_right : mg "_law_few_right" = some (.ref (He.ga K "_law_few_right"))
  g_law : mg "law" = some (.ref (He.ga K "law"))
  g_WebError : mg "WebError" = some (.ref (He.ga K "WebError"))
  g_Misfit : mg "Misfit" = some (.ref (He.ga K "Misfit"))
  g_BadNumber : mg "BadNumber" = some (.ref (He.ga K "BadNumber"))
  d_is_integer : ∃ fd, FunD K "is_integer" "is_integer" (defArgs (top 5)) (defBody (top 5)) (defScope (top 5)) [] [] (He.fAd K ("is_integer", none)) fd
  d_is_within : ∃ fd, FunD K "is_within" "is_within" (defArgs (top 6)) (defBody (top 6)) (defScope (top 6)) [] [] (He.fAd K ("is_within", none)) fd
  d_are_numbers : ∃ fd, FunD K "are_numbers" "are_numbers" (defArgs (top 7)) (defBody (top 7)) (defScope (top 7)) [] [] (He.fAd K ("are_numbers", none)) fd
  d_need_number : ∃ fd, FunD K "need_number" "need_number" (defArgs (top 8)) (defBody (top 8)) (defScope (top 8)) [] [] (He.fAd K ("need_number", none)) fd
  d_are_some : ∃ fd, FunD K "are_some" "are_some" (defArgs (top 13)) (defBody (top 13)) (defScope (top 13)) [] [] (He.fAd K ("are_some", none)) fd
  d_need_polynomial : ∃ fd, FunD K "need_polynomial" "need_polynomial" (defArgs (top 14)) (defBody (top 14)) (defScope (top 14)) [] [] (He.fAd K ("need_polynomial", none)) fd
  d_newton : ∃ fd, FunD K "newton" "newton" (defArgs (top 15)) (defBody (top 15)) (defScope (top 15)) [] [] (He.fAd K ("newton", none)) fd
  d_next_length : ∃ fd, FunD K "next_length" "next_length" (defArgs (top 16)) (defBody (top 16)) (defScope (top 16)) [] [] (He.fAd K ("next_length", none)) fd
  d_lengths_of : ∃ fd, FunD K "lengths_of" "lengths_of" (defArgs (top 17)) (defBody (top 17)) (defScope (top 17)) [] [] (He.fAd K ("lengths_of", none)) fd
  d_traces_from : ∃ fd, FunD K "traces_from" "traces_from" (defArgs (top 18)) (defBody (top 18)) (defScope (top 18)) [] [] (He.fAd K ("traces_from", none)) fd
  d_polynomial_from : ∃ fd, FunD K "polynomial_from" "polynomial_from" (defArgs (top 19)) (defBody (top 19)) (defScope (top 19)) [] [] (He.fAd K ("polynomial_from", none)) fd
  d__law_jar : ∃ fd, FunD K "_law_jar" "_law_jar" (defArgs (top 21)) (defBody (top 21)) (defScope (top 21)) [] [] (He.fAd K ("_law_jar", none)) fd
  d__law_lot : ∃ fd, FunD K "_law_lot" "_law_lot" (defArgs (top 22)) (defBody (top 22)) (defScope (top 22)) [] [] (He.fAd K ("_law_lot", none)) fd
  d__law_take : ∃ fd, FunD K "_law_take" "_law_take" (defArgs (top 23)) (defBody (top 23)) (defScope (top 23)) [] [] (He.fAd K ("_law_take", none)) fd
  d__law_times : ∃ fd, FunD K "_law_times" "_law_times" (defArgs (top 24)) (defBody (top 24)) (defScope (top 24)) [] [] (He.fAd K ("_law_times", none)) fd
  d__law_powers : ∃ fd, FunD K "_law_powers" "_law_powers" (defArgs (top 25)) (defBody (top 25)) (defScope (top 25)) [] [] (He.fAd K ("_law_powers", none)) fd
  d__law_heard : ∃ fd, FunD K "_law_heard" "_law_heard" (defArgs (top 26)) (defBody (top 26)) (defScope (top 26)) [] [] (He.fAd K ("_law_heard", none)) fd
  d__law_product_right : ∃ fd, FunD K "_law_product_right" "_law_product_right" (defArgs (top 27)) (defBody (top 27)) (defScope (top 27)) [] [] (He.fAd K ("_law_product_right", none)) fd
  d__law_any_right : ∃ fd, FunD K "_law_any_right" "_law_any_right" (defArgs (top 28)) (defBody (top 28)) (defScope (top 28)) [] [] (He.fAd K ("_law_any_right", none)) fd
  d__law_few_right : ∃ fd, FunD K "_law_few_right" "_law_few_right" (defArgs (top 29)) (defBody (top 29)) (defScope (top 29)) [] [] (He.fAd K ("_law_few_right", none)) fd
  d_law : ∃ fd, FunD K "law" "law" (defArgs (top 30)) (defBody (top 30)) (defScope (top 30)) [] [] (He.fAd K ("law", none)) fd
  i_LEAST_NUMBERS : ∃ t, mg "LEAST_NUMBERS" = some (.int 2 t)
  i_MOST_NUMBERS : ∃ t, mg "MOST_NUMBERS" = some (.int 25 t)
  i_MOST_LENGTH : ∃ t, mg "MOST_LENGTH" = some (.int 100 t)
  f_abs : mg "abs" = none
  f_all : mg "all" = none
  f_bool : mg "bool" = none
  f_enumerate : mg "enumerate" = none
  f_int : mg "int" = none
  f_isinstance : mg "isinstance" = none
  f_len : mg "len" = none
  f_list : mg "list" = none
  f_min : mg "min" = none
  f_range : mg "range" = none
  f_repr : mg "repr" = none
  f_sum : mg "sum" = none
  f_tuple : mg "tuple" = none
  f_zip : mg "zip" = none
  e_BadNumber : ErrG P w K mg base "BadNumber" "part"
  e_Misfit : ErrG P w K mg base "Misfit" "part"
  hk : ∀ x ∈ errs, HearK K x
  lam : LamK K mg base
theorem t_is_integer {P : Program} {w : World} {K : PySem.W.Frag} {mg : Str → Option Value} {base : Heap} (T : Facts P w K mg base) : FnM P w K mg base false 1 "is_integer" 1 m_is_integer := by
  obtain ⟨fd, F⟩ := T.d_is_integer
  have nd : (["value"] : List Str).Nodup := by decide +kernel
  refine FnM.of (k := 0) (kp := 0) (N := ["value"]) (ps := ["value"]) F (scopeOf (by decide +kernel)) T.g_is_integer (fun _ _ _ _ _ _ us hl => match us, hl with | [_], _ => rfl) fun cdv A outer s H E hcd hr hgd => ?_
  exact (ss_one (s_ret (pp_and (pp_B call_isi caS_isi rfl T.f_isinstance b_isinstance (pq_cons (pp_var 0) (pq_cons (pp_ty rfl T.f_int b_int) pq_nil))) (pp_one (pp_not (pp_B call_isi caS_isi rfl T.f_isinstance b_isinstance (pq_cons (pp_var 0) (pq_cons (pp_ty rfl T.f_bool b_bool) pq_nil))))))))

theorem t_is_within {P : Program} {w : World} {K : PySem.W.Frag} {mg : Str → Option Value} {base : Heap} (T : Facts P w K mg base) : FnM P w K mg base false 2 "is_within" 3 m_is_within := by
  obtain ⟨fd, F⟩ := T.d_is_within
  have nd : (["value", "least", "most"] : List Str).Nodup := by decide +kernel
  refine FnM.of (k := 1) (kp := 0) (N := ["value", "least", "most"]) (ps := ["value", "least", "most"]) F (scopeOf (by decide +kernel)) T.g_is_within (fun _ _ _ _ _ _ us hl => match us, hl with | [_, _, _], _ => rfl) fun cdv A outer s H E hcd hr hgd => ?_
  exact (ss_cons (s_if (PW.pt (pbw_or (pb_not (pb_val (pp_call (t_is_integer T) (hr.mono (by decide)) (fun z => nomatch z) rfl (takes_of rfl rfl rfl rfl) True.intro (pq_cons (pp_var 0) pq_nil)))) (pbw_or1 (PW.pt (pbw_and (pb_cmp op_notN opS_notN (pp_var 1) pp_non (nomark _)) (pbw_and1 (pb_cmp op_lt opS_IB (pp_var 0) (pp_var 1) (nomark _)))))))) (ss_one (s_ret pp_bl)) ss_nil)
      (ss_one (s_ret (pp_or (pp_cmp op_isN opS_isN (pp_var 2) pp_non (nomark _)) (pp_one (pp_cmp op_le opS_IB (pp_var 0) (pp_var 2) (nomark _)))))))

theorem t_are_numbers {P : Program} {w : World} {K : PySem.W.Frag} {mg : Str → Option Value} {base : Heap} (T : Facts P w K mg base) : FnM P w K mg base false 2 "are_numbers" 1 m_are_numbers := by
  obtain ⟨fd, F⟩ := T.d_are_numbers
  have nd : (["value", "part"] : List Str).Nodup := by decide +kernel
  refine FnM.of (k := 1) (kp := 0) (N := ["value", "part"]) (ps := ["value"]) F (scopeOf (by decide +kernel)) T.g_are_numbers (fun _ _ _ _ _ _ us hl => match us, hl with | [_], _ => rfl) fun cdv A outer s H E hcd hr hgd => ?_
  exact (ss_one (s_ret (pp_and (pp_B (callR_or call_isiT call_isiK) caS_isiT rfl T.f_isinstance b_isinstance (pq_cons (pp_var 0) (pq_cons (pp_tup (pq_cons (pp_ty rfl T.f_list b_list) (pq_cons (pp_ty rfl T.f_tuple b_tuple) pq_nil))) pq_nil))) (pp_one (pp_B (cr_all rfl) caS_all rfl T.f_all b_all (pq_cons (PF.frz (pf_lc nd (it_seq (pp_var 0)) (own := [("part", 1)]) (blkOf (by kernel_rfl)) (slots_sub (by decide)) (fun s H C cl fp => (g_nm 1 nd)) (fun s H C cl fp => ptb_nil) (fun s H C cl fp => (pp_call (t_is_integer T) (hr.mono (by decide)) (fun z => nomatch z) rfl LamX.takes0 True.intro (pq_cons (pp_var 1) pq_nil))))) pq_nil))))))

theorem t_need_number {P : Program} {w : World} {K : PySem.W.Frag} {mg : Str → Option Value} {base : Heap} (T : Facts P w K mg base) : FnM P w K mg base false 3 "need_number" 4 m_need_number := by
  obtain ⟨fd, F⟩ := T.d_need_number
  have nd : (["value", "part", "least", "most"] : List Str).Nodup := by decide +kernel
  refine FnM.of (k := 2) (kp := 0) (N := ["value", "part", "least", "most"]) (ps := ["value", "part", "least", "most"]) F (scopeOf (by decide +kernel)) T.g_need_number (fun _ _ _ _ _ _ us hl => match us, hl with | [_, _, _, _], _ => rfl) fun cdv A outer s H E hcd hr hgd => ?_
  exact (ss_one (s_if (pb_not (pb_val (pp_call (t_is_within T) (hr.mono (by decide)) (fun z => nomatch z) rfl (takes_of rfl rfl rfl rfl) True.intro (pq_cons (pp_var 0) (pq_cons (pp_var 2) (pq_cons (pp_var 3) pq_nil)))))) (ss_one (s_raise T.e_BadNumber (hr.mono (by decide)) rfl (takes_of rfl rfl rfl rfl) (pq_cons (pp_var 1) pq_nil))) ss_nil))

theorem t_are_some {P : Program} {w : World} {K : PySem.W.Frag} {mg : Str → Option Value} {base : Heap} (T : Facts P w K mg base) : FnM P w K mg base false 3 "are_some" 1 m_are_some := by
  obtain ⟨fd, F⟩ := T.d_are_some
  have nd : (["value"] : List Str).Nodup := by decide +kernel
  refine FnM.of (k := 2) (kp := 0) (N := ["value"]) (ps := ["value"]) F (scopeOf (by decide +kernel)) T.g_are_some (fun _ _ _ _ _ _ us hl => match us, hl with | [_], _ => rfl) fun cdv A outer s H E hcd hr hgd => ?_
  exact (ss_one (s_ret (pp_and (pp_call (t_are_numbers T) (hr.mono (by decide)) (fun z => nomatch z) rfl (takes_of rfl rfl rfl rfl) True.intro (pq_cons (pp_var 0) pq_nil)) (pp_one (pp_chain op_le opS_IB op_le opS_IB (pp_gint rfl T.i_LEAST_NUMBERS) (pp_B call_len caS_len rfl T.f_len b_len (pq_cons (pp_var 0) pq_nil)) (pp_gint rfl T.i_MOST_NUMBERS))))))

theorem t_need_polynomial {P : Program} {w : World} {K : PySem.W.Frag} {mg : Str → Option Value} {base : Heap} (T : Facts P w K mg base) : FnM P w K mg base false 4 "need_polynomial" 1 m_need_polynomial := by
  obtain ⟨fd, F⟩ := T.d_need_polynomial
  have nd : (["value"] : List Str).Nodup := by decide +kernel
  refine FnM.of (k := 3) (kp := 0) (N := ["value"]) (ps := ["value"]) F (scopeOf (by decide +kernel)) T.g_need_polynomial (fun _ _ _ _ _ _ us hl => match us, hl with | [_], _ => rfl) fun cdv A outer s H E hcd hr hgd => ?_
  exact (ss_one (s_if (PW.pt (pbw_or (pb_not (pb_val (pp_call (t_are_some T) (hr.mono (by decide)) (fun z => nomatch z) rfl (takes_of rfl rfl rfl rfl) True.intro (pq_cons (pp_var 0) pq_nil)))) (pbw_or1 (pb_cmp (op_neD hr.units) opS_ne (pp_ix (pp_var 0) (pp_neg pp_int) (fun _ _ => rfl)) pp_int (nomark _))))) (ss_one (s_raise T.e_BadNumber (hr.mono (by decide)) rfl (takes_of rfl rfl rfl rfl) (pq_cons pp_str pq_nil))) ss_nil))

theorem t_newton {P : Program} {w : World} {K : PySem.W.Frag} {mg : Str → Option Value} {base : Heap} (T : Facts P w K mg base) : FnM P w K mg base false 1 "newton" 1 m_newton := by
  obtain ⟨fd, F⟩ := T.d_newton
  have nd : (["traces", "found", "length", "total", "at", "number"] : List Str).Nodup := by decide +kernel
  refine FnM.of (k := 0) (kp := 0) (N := ["traces", "found", "length", "total", "at", "number"]) (ps := ["traces"]) F (scopeOf (by decide +kernel)) T.g_newton (fun _ _ _ _ _ _ us hl => match us, hl with | [_], _ => rfl) fun cdv A outer s H E hcd hr hgd => ?_
  exact (ss_cons (s_set 1 nd (PF.loc (pf_lst (pq_cons pp_int pq_nil))))
      (ss_cons (s_for (it_range2 rfl T.f_range (pq_cons pp_int (pq_cons (pp_B call_len caS_len rfl T.f_len b_len (pq_cons (pp_var 0) pq_nil)) pq_nil))) (g_nm 2 nd) (ss_cons (s_set 3 nd (pp_B (cr_sum rfl) caS_sum rfl T.f_sum b_sum (pq_cons (PF.frz (pf_lc nd (it_enum rfl T.f_enumerate (pq_cons (pp_var 1) pq_nil)) (own := [("at", 4), ("number", 5)]) (blkOf (by kernel_rfl)) (slots_sub (by decide)) (fun s H C cl fp => (g_tp (gs_cons (g_nm 4 nd) (gs_cons (g_nm 5 nd) gs_nil)))) (fun s H C cl fp => ptb_nil) (fun s H C cl fp => (pp_mul (pp_ix (pp_var 0) (pp_sub (pp_var 2) (pp_var 4)) (fun _ _ => rfl)) (pp_var 5))))) pq_nil)))
      (ss_cons (s_if (pb_cmp (op_neD hr.units) opS_ne (pp_mod (pp_var 3) (pp_var 2)) pp_int (nomark _)) (ss_one (s_ret pp_non)) ss_nil)
      (ss_one (s_exp (pp_append (pp_var 1) (pq_cons (pp_fdiv (pp_neg (pp_var 3)) (pp_var 2)) pq_nil)))))) (passes_of rfl))
      (ss_one (s_ret (pp_T call_tuple_of caS_tuple rfl T.f_tuple b_tuple (pq_cons (PF.frz (pf_rev (pp_var 1))) pq_nil))))))

theorem t_next_length {P : Program} {w : World} {K : PySem.W.Frag} {mg : Str → Option Value} {base : Heap} (T : Facts P w K mg base) : FnM P w K mg base false 1 "next_length" 2 m_next_length := by
  obtain ⟨fd, F⟩ := T.d_next_length
  have nd : (["numbers", "found", "length", "total", "at"] : List Str).Nodup := by decide +kernel
  refine FnM.of (k := 0) (kp := 0) (N := ["numbers", "found", "length", "total", "at"]) (ps := ["numbers", "found"]) F (scopeOf (by decide +kernel)) T.g_next_length (fun _ _ _ _ _ _ us hl => match us, hl with | [_, _], _ => rfl) fun cdv A outer s H E hcd hr hgd => ?_
  exact (ss_cons (s_set 2 nd (pp_B call_len caS_len rfl T.f_len b_len (pq_cons (pp_var 1) pq_nil)))
      (ss_cons (s_set 3 nd (pp_ifx (pb_cmp op_lt opS_IB (pp_var 2) (pp_B call_len caS_len rfl T.f_len b_len (pq_cons (pp_var 0) pq_nil)) (nomark _)) (pp_mul (pp_var 2) (pp_ix (pp_var 0) (pp_var 2) (fun _ _ => rfl))) pp_int))
      (ss_one (s_ret (pp_sub (pp_neg (pp_var 3)) (pp_B (cr_sum rfl) caS_sum rfl T.f_sum b_sum (pq_cons (PF.frz (pf_lc nd (it_range2 rfl T.f_range (pq_cons pp_int (pq_cons (pp_B (call_min2 rfl) caS_min2 rfl T.f_min b_min (pq_cons (pp_var 2) (pq_cons (pp_B call_len caS_len rfl T.f_len b_len (pq_cons (pp_var 0) pq_nil)) pq_nil))) pq_nil))) (own := [("at", 4)]) (blkOf (by kernel_rfl)) (slots_sub (by decide)) (fun s H C cl fp => (g_nm 4 nd)) (fun s H C cl fp => ptb_nil) (fun s H C cl fp => (pp_mul (pp_ix (pp_var 0) (pp_var 4) (fun _ _ => rfl)) (pp_ix (pp_var 1) (pp_sub (pp_var 2) (pp_var 4)) (fun _ _ => rfl)))))) pq_nil)))))))

theorem t_lengths_of {P : Program} {w : World} {K : PySem.W.Frag} {mg : Str → Option Value} {base : Heap} (T : Facts P w K mg base) : FnM P w K mg base false 2 "lengths_of" 2 m_lengths_of := by
  obtain ⟨fd, F⟩ := T.d_lengths_of
  have nd : (["polynomial", "many", "numbers", "found"] : List Str).Nodup := by decide +kernel
  refine FnM.of (k := 1) (kp := 0) (N := ["polynomial", "many", "numbers", "found"]) (ps := ["polynomial", "many"]) F (scopeOf (by decide +kernel)) T.g_lengths_of (fun _ _ _ _ _ _ us hl => match us, hl with | [_, _], _ => rfl) fun cdv A outer s H E hcd hr hgd => ?_
  exact (ss_cons (s_par 2 3 nd (pq_cons (PF.frz (pf_rev (pp_var 0))) (pq_cons (PF.loc (pf_lst (pq_cons (pp_sub (pp_B call_len caS_len rfl T.f_len b_len (pq_cons (pp_var 0) pq_nil)) pp_int) pq_nil))) pq_nil)) rfl)
      (ss_cons (s_while 120 (pb_cmp op_lt opS_IB (pp_B call_len caS_len rfl T.f_len b_len (pq_cons (pp_var 3) pq_nil)) (pp_var 1) (nomark _)) (ss_one (s_exp (pp_append (pp_var 3) (pq_cons (pp_call (t_next_length T) (hr.mono (by decide)) (fun z => nomatch z) rfl (takes_of rfl rfl rfl rfl) True.intro (pq_cons (pp_var 2) (pq_cons (pp_var 3) pq_nil))) pq_nil)))) (passes_of rfl))
      (ss_one (s_ret (PF.frz (pf_sl (pp_var 3) pso_none (pso_some (pp_var 1))))))))

theorem t_traces_from {P : Program} {w : World} {K : PySem.W.Frag} {mg : Str → Option Value} {base : Heap} (T : Facts P w K mg base) : FnM P w K mg base false 5 "traces_from" 2 m_traces_from := by
  obtain ⟨fd, F⟩ := T.d_traces_from
  have nd : (["polynomial", "many"] : List Str).Nodup := by decide +kernel
  refine FnM.of (k := 4) (kp := 0) (N := ["polynomial", "many"]) (ps := ["polynomial", "many"]) F (scopeOf (by decide +kernel)) T.g_traces_from (fun _ _ _ _ _ _ us hl => match us, hl with | [_, _], _ => rfl) fun cdv A outer s H E hcd hr hgd => ?_
  exact (ss_cons (s_exp (pp_call (t_need_polynomial T) (hr.mono (by decide)) (fun z => nomatch z) rfl (takes_of rfl rfl rfl rfl) True.intro (pq_cons (pp_var 0) pq_nil)))
      (ss_cons (s_exp (pp_call (t_need_number T) (hr.mono (by decide)) (fun z => nomatch z) rfl (takes_of rfl rfl rfl rfl) True.intro (pq_cons (pp_var 1) (pq_cons pp_str (pq_cons pp_int (pq_cons (pp_gint rfl T.i_MOST_LENGTH) pq_nil))))))
      (ss_one (s_ret (pp_T call_tuple_of caS_tuple rfl T.f_tuple b_tuple (pq_cons (pp_call (t_lengths_of T) (hr.mono (by decide)) (fun z => nomatch z) rfl (takes_of rfl rfl rfl rfl) True.intro (pq_cons (PF.frz (pf_T call_list_of caF_list rfl T.f_list b_list (pq_cons (pp_var 0) pq_nil))) (pq_cons (pp_var 1) pq_nil))) pq_nil))))))

theorem t_polynomial_from {P : Program} {w : World} {K : PySem.W.Frag} {mg : Str → Option Value} {base : Heap} (T : Facts P w K mg base) : FnM P w K mg base false 4 "polynomial_from" 1 m_polynomial_from := by
  obtain ⟨fd, F⟩ := T.d_polynomial_from
  have nd : (["traces", "found"] : List Str).Nodup := by decide +kernel
  refine FnM.of (k := 3) (kp := 0) (N := ["traces", "found"]) (ps := ["traces"]) F (scopeOf (by decide +kernel)) T.g_polynomial_from (fun _ _ _ _ _ _ us hl => match us, hl with | [_], _ => rfl) fun cdv A outer s H E hcd hr hgd => ?_
  exact (ss_cons (s_if (PW.pt (pbw_or (pb_not (pb_val (pp_call (t_are_some T) (hr.mono (by decide)) (fun z => nomatch z) rfl (takes_of rfl rfl rfl rfl) True.intro (pq_cons (pp_var 0) pq_nil)))) (pbw_or1 (pb_cmp (op_neD hr.units) opS_ne (pp_ix (pp_var 0) pp_int (fun _ _ => rfl)) (pp_sub (pp_B call_len caS_len rfl T.f_len b_len (pq_cons (pp_var 0) pq_nil)) pp_int) (nomark _))))) (ss_one (s_raise T.e_BadNumber (hr.mono (by decide)) rfl (takes_of rfl rfl rfl rfl) (pq_cons pp_str pq_nil))) ss_nil)
      (ss_cons (s_set 1 nd (pp_call (t_newton T) (hr.mono (by decide)) (fun z => nomatch z) rfl (takes_of rfl rfl rfl rfl) True.intro (pq_cons (pp_var 0) pq_nil)))
      (ss_cons (s_if (pb_cmp op_isN opS_isN (pp_var 1) pp_non (nomark _)) (ss_one (s_raise T.e_Misfit (hr.mono (by decide)) rfl (takes_of rfl rfl rfl rfl) (pq_cons pp_str pq_nil))) ss_nil)
      (ss_one (s_ret (pp_var 1))))))

theorem t__law_jar {P : Program} {w : World} {K : PySem.W.Frag} {mg : Str → Option Value} {base : Heap} (T : Facts P w K mg base) : FnM P w K mg base false 1 "_law_jar" 1 m__law_jar := by
  obtain ⟨fd, F⟩ := T.d__law_jar
  have nd : (["script", "cell"] : List Str).Nodup := by decide +kernel
  refine FnM.of (k := 0) (kp := 1) (N := ["script", "cell"]) (ps := ["script"]) F (scopeOf (by decide +kernel)) T.g__law_jar (fun _ _ _ _ _ _ us hl => match us, hl with | [_], _ => rfl) fun cdv A outer s H E hcd hr hgd => ?_
  exact (ss_one (s_ret (PF.loc (pf_lst (pq_cons (PF.frz (pf_lc nd (it_seq (PF.frz (pf_sl (pp_var 0) pso_none (pso_some pp_int)))) (own := [("cell", 1)]) (blkOf (by kernel_rfl)) (slots_sub (by decide)) (fun s H C cl fp => (g_nm 1 nd)) (fun s H C cl fp => ptb_nil) (fun s H C cl fp => (pp_T call_int1 caS_int rfl T.f_int b_int (pq_cons (pp_var 1) pq_nil))))) (pq_cons pp_int (pq_cons pp_int pq_nil)))))))

theorem t__law_lot {P : Program} {w : World} {K : PySem.W.Frag} {mg : Str → Option Value} {base : Heap} (T : Facts P w K mg base) : FnM P w K mg base false 1 "_law_lot" 2 m__law_lot := by
  obtain ⟨fd, F⟩ := T.d__law_lot
  have nd : (["jar", "many", "rest", "turn", "cell", "mixed"] : List Str).Nodup := by decide +kernel
  refine FnM.of (k := 0) (kp := 0) (N := ["jar", "many", "rest", "turn", "cell", "mixed"]) (ps := ["jar", "many"]) F (scopeOf (by decide +kernel)) T.g__law_lot (fun _ _ _ _ _ _ us hl => match us, hl with | [_, _], _ => rfl) fun cdv A outer s H E hcd hr hgd => ?_
  exact (ss_cons (s_if (pb_cmp op_gt opS_IB (pp_ix (pp_var 0) pp_int (fun _ _ => rfl)) pp_int (nomark _)) (ss_cons (s_set 2 nd (pp_ix (pp_var 0) pp_int (fun _ _ => rfl)))
      (ss_cons (s_setIx (pp_fdiv (pp_T call_int1 caS_int rfl T.f_int b_int (pq_cons (pp_var 2) pq_nil)) (pp_var 1)) (pp_var 0) pp_int)
      (ss_one (s_ret (pp_mod (pp_T call_int1 caS_int rfl T.f_int b_int (pq_cons (pp_var 2) pq_nil)) (pp_var 1)))))) ss_nil)
      (ss_cons (s_set 3 nd (pp_ix (pp_var 0) pp_int (fun _ _ => rfl)))
      (ss_cons (s_setIx (pp_add (pp_var 3) pp_int) (pp_var 0) pp_int)
      (ss_cons (s_set 4 nd (pp_add (pp_mul pp_int (pp_var 3)) pp_int))
      (ss_cons (s_if (pb_cmp (op_neD hr.units) opS_ne (pp_ix (pp_var 0) pp_int (fun _ _ => rfl)) (PF.frz (pf_lst pq_nil)) (nomark _)) (ss_one (s_set 4 nd (pp_ix (pp_ix (pp_var 0) pp_int (fun _ _ => rfl)) (pp_mod (pp_T call_int1 caS_int rfl T.f_int b_int (pq_cons (pp_var 3) pq_nil)) (pp_B call_len caS_len rfl T.f_len b_len (pq_cons (pp_ix (pp_var 0) pp_int (fun _ _ => rfl)) pq_nil))) (fun _ _ => rfl)))) ss_nil)
      (ss_cons (s_if (PW.pt (pbw_and (pb_cmp op_lt opS_IB (pp_var 3) (pp_B call_len caS_len rfl T.f_len b_len (pq_cons (pp_ix (pp_var 0) pp_int (fun _ _ => rfl)) pq_nil)) (nomark _)) (pbw_and1 (pb_cmp op_ge opS_IB (pp_B call_abs caS_abs rfl T.f_abs b_abs (pq_cons (pp_var 4) pq_nil)) (pp_pow pp_int pp_int) (nomark _))))) (ss_cons (s_set 2 nd (pp_add (pp_mul pp_int (pp_sub (pp_B call_abs caS_abs rfl T.f_abs b_abs (pq_cons (pp_var 4) pq_nil)) (pp_pow pp_int pp_int))) (pp_T call_int1 caS_int rfl T.f_int b_int (pq_cons (pp_cmp op_lt opS_IB (pp_var 4) pp_int (nomark _)) pq_nil))))
      (ss_cons (s_setIx (pp_fdiv (pp_T call_int1 caS_int rfl T.f_int b_int (pq_cons (pp_var 2) pq_nil)) (pp_var 1)) (pp_var 0) pp_int)
      (ss_one (s_ret (pp_mod (pp_T call_int1 caS_int rfl T.f_int b_int (pq_cons (pp_var 2) pq_nil)) (pp_var 1)))))) ss_nil)
      (ss_cons (s_set 5 nd (pp_mod (pp_T call_int1 caS_int rfl T.f_int b_int (pq_cons (pp_pow (pp_add (pp_add (pp_mod (pp_T call_int1 caS_int rfl T.f_int b_int (pq_cons (pp_var 4) pq_nil)) pp_int) (pp_mul pp_int (pp_var 3))) pp_int) pp_int) pq_nil)) pp_int))
      (ss_cons (s_set 5 nd (pp_mod (pp_T call_int1 caS_int rfl T.f_int b_int (pq_cons (pp_pow (pp_add (pp_add (pp_mul (pp_var 5) (pp_add (pp_mul pp_int (pp_var 3)) pp_int)) (pp_mul (pp_mul pp_int (pp_var 3)) (pp_var 3))) pp_int) pp_int) pq_nil)) pp_int))
      (ss_one (s_ret (pp_mod (pp_T call_int1 caS_int rfl T.f_int b_int (pq_cons (pp_fdiv (pp_var 5) pp_int) pq_nil)) (pp_var 1))))))))))))

theorem t__law_take {P : Program} {w : World} {K : PySem.W.Frag} {mg : Str → Option Value} {base : Heap} (T : Facts P w K mg base) : FnM P w K mg base false 2 "_law_take" 2 m__law_take := by
  obtain ⟨fd, F⟩ := T.d__law_take
  have nd : (["jar", "some"] : List Str).Nodup := by decide +kernel
  refine FnM.of (k := 1) (kp := 0) (N := ["jar", "some"]) (ps := ["jar", "some"]) F (scopeOf (by decide +kernel)) T.g__law_take (fun _ _ _ _ _ _ us hl => match us, hl with | [_, _], _ => rfl) fun cdv A outer s H E hcd hr hgd => ?_
  exact (ss_one (s_ret (pp_ix (pp_var 1) (pp_call (t__law_lot T) (hr.mono (by decide)) (fun z => nomatch z) rfl (takes_of rfl rfl rfl rfl) True.intro (pq_cons (pp_var 0) (pq_cons (pp_B call_len caS_len rfl T.f_len b_len (pq_cons (pp_var 1) pq_nil)) pq_nil))) (fun _ _ => rfl))))

theorem t__law_times {P : Program} {w : World} {K : PySem.W.Frag} {mg : Str → Option Value} {base : Heap} (T : Facts P w K mg base) : FnM P w K mg base false 1 "_law_times" 2 m__law_times := by
  obtain ⟨fd, F⟩ := T.d__law_times
  have nd : (["one", "other", "found", "at", "mine", "spot", "its"] : List Str).Nodup := by decide +kernel
  refine FnM.of (k := 0) (kp := 0) (N := ["one", "other", "found", "at", "mine", "spot", "its"]) (ps := ["one", "other"]) F (scopeOf (by decide +kernel)) T.g__law_times (fun _ _ _ _ _ _ us hl => match us, hl with | [_, _], _ => rfl) fun cdv A outer s H E hcd hr hgd => ?_
  exact (ss_cons (s_set 2 nd (PF.loc (pf_rep (PF.frz (pf_lst (pq_cons pp_int pq_nil))) (pp_sub (pp_add (pp_B call_len caS_len rfl T.f_len b_len (pq_cons (pp_var 0) pq_nil)) (pp_B call_len caS_len rfl T.f_len b_len (pq_cons (pp_var 1) pq_nil))) pp_int))))
      (ss_cons (s_for (it_enum rfl T.f_enumerate (pq_cons (pp_var 0) pq_nil)) (g_tp (gs_cons (g_nm 3 nd) (gs_cons (g_nm 4 nd) gs_nil))) (ss_one (s_for (it_enum rfl T.f_enumerate (pq_cons (pp_var 1) pq_nil)) (g_tp (gs_cons (g_nm 5 nd) (gs_cons (g_nm 6 nd) gs_nil))) (ss_one (s_setIx (pp_add (pp_ix (pp_var 2) (pp_add (pp_var 3) (pp_var 5)) (fun _ _ => rfl)) (pp_mul (pp_var 4) (pp_var 6))) (pp_var 2) (pp_add (pp_var 3) (pp_var 5)))) (passes_of rfl))) (passes_of rfl))
      (ss_one (s_ret (pp_var 2)))))

theorem t__law_powers {P : Program} {w : World} {K : PySem.W.Frag} {mg : Str → Option Value} {base : Heap} (T : Facts P w K mg base) : FnM P w K mg base false 1 "_law_powers" 2 m__law_powers := by
  obtain ⟨fd, F⟩ := T.d__law_powers
  have nd : (["numbers", "many", "found", "now", "turn", "power", "number"] : List Str).Nodup := by decide +kernel
  refine FnM.of (k := 0) (kp := 0) (N := ["numbers", "many", "found", "now", "turn", "power", "number"]) (ps := ["numbers", "many"]) F (scopeOf (by decide +kernel)) T.g__law_powers (fun _ _ _ _ _ _ us hl => match us, hl with | [_, _], _ => rfl) fun cdv A outer s H E hcd hr hgd => ?_
  exact (ss_cons (s_par 2 3 nd (pq_cons (PF.loc (pf_lst pq_nil)) (pq_cons (PF.frz (pf_rep (PF.frz (pf_lst (pq_cons pp_int pq_nil))) (pp_B call_len caS_len rfl T.f_len b_len (pq_cons (pp_var 0) pq_nil)))) pq_nil)) rfl)
      (ss_cons (s_for (it_range1 rfl T.f_range (pq_cons (pp_var 1) pq_nil)) (g_nm 4 nd) (ss_cons (s_exp (pp_append (pp_var 2) (pq_cons (pp_B (cr_sum rfl) caS_sum rfl T.f_sum b_sum (pq_cons (pp_var 3) pq_nil)) pq_nil)))
      (ss_one (s_setLcF 3 nd (it_zip rfl T.f_zip (pq_cons (pp_var 3) (pq_cons (pp_var 0) pq_nil))) (own := [("power", 5), ("number", 6)]) (blkOf (by kernel_rfl)) (slots_sub (by decide)) (fun s H C cl fp => (g_tp (gs_cons (g_nm 5 nd) (gs_cons (g_nm 6 nd) gs_nil)))) (fun s H C cl fp => ptb_nil) (fun s H C cl fp => (pp_mul (pp_var 5) (pp_var 6))) rfl))) (passes_of rfl))
      (ss_one (s_ret (pp_T call_tuple_of caS_tuple rfl T.f_tuple b_tuple (pq_cons (pp_var 2) pq_nil))))))

theorem t__law_product_right {P : Program} {w : World} {K : PySem.W.Frag} {mg : Str → Option Value} {base : Heap} (T : Facts P w K mg base) : FnM P w K mg base true 6 "_law_product_right" 1 m__law_product_right := by
  obtain ⟨fd, F⟩ := T.d__law_product_right
  have nd : (["jar", "numbers", "turn", "whole", "number", "many"] : List Str).Nodup := by decide +kernel
  refine FnM.of (k := 5) (kp := 0) (N := ["jar", "numbers", "turn", "whole", "number", "many"]) (ps := ["jar"]) F (scopeOf (by decide +kernel)) T.g__law_product_right (fun _ _ _ _ _ _ us hl => match us, hl with | [_], _ => rfl) fun cdv A outer s H E hcd hr hgd => ?_
  exact (ss_cons (s_setLcF 1 nd (it_range1 rfl T.f_range (pq_cons (pp_call (t__law_take T) (hr.mono (by decide)) (fun z => nomatch z) rfl (takes_of rfl rfl rfl rfl) True.intro (pq_cons (pp_var 0) (pq_cons (PF.frz (pf_lst (pq_cons pp_int (pq_cons pp_int (pq_cons pp_int (pq_cons pp_int (pq_cons pp_int (pq_cons pp_int pq_nil)))))))) pq_nil))) pq_nil)) (own := [("turn", 2)]) (blkOf (by kernel_rfl)) (slots_sub (by decide)) (fun s H C cl fp => (g_nm 2 nd)) (fun s H C cl fp => ptb_nil) (fun s H C cl fp => (pp_sub (pp_call (t__law_lot T) (hr.mono (by decide)) (fun z => nomatch z) rfl LamX.takes0 True.intro (pq_cons (pp_var 0) (pq_cons pp_int pq_nil))) pp_int)) rfl)
      (ss_cons (s_set 3 nd (PF.frz (pf_lst (pq_cons pp_int pq_nil))))
      (ss_cons (s_for (it_seq (pp_var 1)) (g_nm 4 nd) (ss_one (s_set 3 nd (pp_call (t__law_times T) (hr.mono (by decide)) (fun z => nomatch z) rfl (takes_of rfl rfl rfl rfl) True.intro (pq_cons (pp_var 3) (pq_cons (PF.frz (pf_lst (pq_cons (pp_neg (pp_var 4)) (pq_cons pp_int pq_nil)))) pq_nil))))) (passes_of rfl))
      (ss_cons (s_set 5 nd (pp_add (pp_B call_len caS_len rfl T.f_len b_len (pq_cons (pp_var 1) pq_nil)) pp_int))
      (ss_cons (s_if (pb_cmp (op_neD hr.units) opS_ne (pp_B (call_repr hr (hgd rfl)) caS_repr rfl T.f_repr b_repr (pq_cons (pp_call (t_traces_from T) (hr.mono (by decide)) (fun z => nomatch z) rfl (takes_of rfl rfl rfl rfl) True.intro (pq_cons (pp_var 3) (pq_cons (pp_var 5) pq_nil))) pq_nil)) (pp_B (call_repr hr (hgd rfl)) caS_repr rfl T.f_repr b_repr (pq_cons (pp_call (t__law_powers T) (hr.mono (by decide)) (fun z => nomatch z) rfl (takes_of rfl rfl rfl rfl) True.intro (pq_cons (pp_var 1) (pq_cons (pp_var 5) pq_nil))) pq_nil)) (nomark _)) (ss_one (s_ret pp_bl)) ss_nil)
      (ss_one (s_ret (pp_cmp (op_eqD hr.units) opS_eq (pp_B (call_repr hr (hgd rfl)) caS_repr rfl T.f_repr b_repr (pq_cons (pp_call (t_polynomial_from T) (hr.mono (by decide)) (fun z => nomatch z) rfl (takes_of rfl rfl rfl rfl) True.intro (pq_cons (PF.frz (pf_T call_list_of caF_list rfl T.f_list b_list (pq_cons (pp_call (t__law_powers T) (hr.mono (by decide)) (fun z => nomatch z) rfl (takes_of rfl rfl rfl rfl) True.intro (pq_cons (pp_var 1) (pq_cons (pp_add (pp_B call_len caS_len rfl T.f_len b_len (pq_cons (pp_var 1) pq_nil)) pp_int) pq_nil))) pq_nil))) pq_nil)) pq_nil)) (pp_B (call_repr hr (hgd rfl)) caS_repr rfl T.f_repr b_repr (pq_cons (pp_T call_tuple_of caS_tuple rfl T.f_tuple b_tuple (pq_cons (pp_var 3) pq_nil)) pq_nil)) (nomark _)))))))))

theorem t__law_any_right {P : Program} {w : World} {K : PySem.W.Frag} {mg : Str → Option Value} {base : Heap} (T : Facts P w K mg base) : FnM P w K mg base false 6 "_law_any_right" 1 m__law_any_right := by
  obtain ⟨fd, F⟩ := T.d__law_any_right
  have nd : (["jar", "one", "turn", "other", "polynomial", "both", "many", "due", "mine", "its"] : List Str).Nodup := by decide +kernel
  refine FnM.of (k := 5) (kp := 0) (N := ["jar", "one", "turn", "other", "polynomial", "both", "many", "due", "mine", "its"]) (ps := ["jar"]) F (scopeOf (by decide +kernel)) T.g__law_any_right (fun _ _ _ _ _ _ us hl => match us, hl with | [_], _ => rfl) fun cdv A outer s H E hcd hr hgd => ?_
  exact (ss_cons (s_set 1 nd (PF.frz (pf_cat (PF.frz (pf_lc nd (it_range1 rfl T.f_range (pq_cons (pp_add pp_int (pp_call (t__law_lot T) (hr.mono (by decide)) (fun z => nomatch z) rfl (takes_of rfl rfl rfl rfl) True.intro (pq_cons (pp_var 0) (pq_cons pp_int pq_nil)))) pq_nil)) (own := [("turn", 2)]) (blkOf (by kernel_rfl)) (slots_sub (by decide)) (fun s H C cl fp => (g_nm 2 nd)) (fun s H C cl fp => ptb_nil) (fun s H C cl fp => (pp_sub (pp_call (t__law_lot T) (hr.mono (by decide)) (fun z => nomatch z) rfl LamX.takes0 True.intro (pq_cons (pp_var 0) (pq_cons pp_int pq_nil))) pp_int)))) (PF.frz (pf_lst (pq_cons pp_int pq_nil))))))
      (ss_cons (s_set 3 nd (PF.frz (pf_cat (PF.frz (pf_lc nd (it_range1 rfl T.f_range (pq_cons (pp_add pp_int (pp_call (t__law_lot T) (hr.mono (by decide)) (fun z => nomatch z) rfl (takes_of rfl rfl rfl rfl) True.intro (pq_cons (pp_var 0) (pq_cons pp_int pq_nil)))) pq_nil)) (own := [("turn", 2)]) (blkOf (by kernel_rfl)) (slots_sub (by decide)) (fun s H C cl fp => (g_nm 2 nd)) (fun s H C cl fp => ptb_nil) (fun s H C cl fp => (pp_sub (pp_call (t__law_lot T) (hr.mono (by decide)) (fun z => nomatch z) rfl LamX.takes0 True.intro (pq_cons (pp_var 0) (pq_cons pp_int pq_nil))) pp_int)))) (PF.frz (pf_lst (pq_cons pp_int pq_nil))))))
      (ss_cons (s_for (it_seq (pp_tup (pq_cons (pp_var 1) (pq_cons (pp_var 3) pq_nil)))) (g_nm 4 nd) (ss_one (s_if (pb_cmp (op_neD hr.units) opS_ne (pp_call (t_polynomial_from T) (hr.mono (by decide)) (fun z => nomatch z) rfl (takes_of rfl rfl rfl rfl) True.intro (pq_cons (pp_call (t_traces_from T) (hr.mono (by decide)) (fun z => nomatch z) rfl (takes_of rfl rfl rfl rfl) True.intro (pq_cons (pp_var 4) (pq_cons (pp_B call_len caS_len rfl T.f_len b_len (pq_cons (pp_var 4) pq_nil)) pq_nil))) pq_nil)) (pp_T call_tuple_of caS_tuple rfl T.f_tuple b_tuple (pq_cons (pp_var 4) pq_nil)) (nomark _)) (ss_one (s_ret pp_bl)) ss_nil)) (passes_of rfl))
      (ss_cons (s_par 5 6 nd (pq_cons (pp_call (t__law_times T) (hr.mono (by decide)) (fun z => nomatch z) rfl (takes_of rfl rfl rfl rfl) True.intro (pq_cons (pp_var 1) (pq_cons (pp_var 3) pq_nil))) (pq_cons (pp_add (pp_add (pp_B call_len caS_len rfl T.f_len b_len (pq_cons (pp_var 1) pq_nil)) (pp_B call_len caS_len rfl T.f_len b_len (pq_cons (pp_var 3) pq_nil))) pp_int) pq_nil)) rfl)
      (ss_cons (s_set 7 nd (pp_T call_tuple_of caS_tuple rfl T.f_tuple b_tuple (pq_cons (PF.frz (pf_lc nd (it_zip rfl T.f_zip (pq_cons (pp_call (t_traces_from T) (hr.mono (by decide)) (fun z => nomatch z) rfl (takes_of rfl rfl rfl rfl) True.intro (pq_cons (pp_var 1) (pq_cons (pp_var 6) pq_nil))) (pq_cons (pp_call (t_traces_from T) (hr.mono (by decide)) (fun z => nomatch z) rfl (takes_of rfl rfl rfl rfl) True.intro (pq_cons (pp_var 3) (pq_cons (pp_var 6) pq_nil))) pq_nil))) (own := [("mine", 8), ("its", 9)]) (blkOf (by kernel_rfl)) (slots_sub (by decide)) (fun s H C cl fp => (g_tp (gs_cons (g_nm 8 nd) (gs_cons (g_nm 9 nd) gs_nil)))) (fun s H C cl fp => ptb_nil) (fun s H C cl fp => (pp_add (pp_var 8) (pp_var 9))))) pq_nil)))
      (ss_one (s_ret (pp_and (pp_cmp (op_eqD hr.units) opS_eq (pp_call (t_traces_from T) (hr.mono (by decide)) (fun z => nomatch z) rfl (takes_of rfl rfl rfl rfl) True.intro (pq_cons (pp_var 5) (pq_cons (pp_var 6) pq_nil))) (pp_var 7) (nomark _)) (pp_one (pp_cmp (op_eqD hr.units) opS_eq (pp_call (t_traces_from T) (hr.mono (by decide)) (fun z => nomatch z) rfl (takes_of rfl rfl rfl rfl) True.intro (pq_cons (pp_T call_tuple_of caS_tuple rfl T.f_tuple b_tuple (pq_cons (pp_var 5) pq_nil)) (pq_cons (pp_sub (pp_var 6) pp_int) pq_nil))) (pp_slT (pp_var 7) pso_none (pso_some (pp_sub (pp_var 6) pp_int))) (nomark _)))))))))))

theorem t__law_few_right {P : Program} {w : World} {K : PySem.W.Frag} {mg : Str → Option Value} {base : Heap} (T : Facts P w K mg base) : FnM P w K mg base false 7 "_law_few_right" 1 m__law_few_right := by
  obtain ⟨fd, F⟩ := T.d__law_few_right
  obtain ⟨fdh, Fh⟩ := T.d__law_heard
  have scH : FnScope Ng ["ask"] (defScope (top 26)) := scopeOf (by decide +kernel)
  have bdH : ∀ (kV doc pm : Value) (an : Option Addr) (cdv ct : Value) (us : List Value), us.length = 1 → bindArgs (PySem.W.fnOf "_law_heard" "_law_heard" (defArgs (top 26)) (defBody (top 26)) (defScope (top 26)) .none kV doc pm an cdv ct) ⟨us, []⟩ = pure ((["ask"] : List Str).zip us) := fun _ _ _ _ _ _ us hl => match us, hl with | [_], _ => rfl
  have nd : (["jar", "one", "two", "three", "second", "third", "due", "is_one"] : List Str).Nodup := by decide +kernel
  refine FnM.of (k := 6) (kp := 0) (N := ["jar", "one", "two", "three", "second", "third", "due", "is_one"]) (ps := ["jar"]) F (scopeOf (by decide +kernel)) T.g__law_few_right (fun _ _ _ _ _ _ us hl => match us, hl with | [_], _ => rfl) fun cdv A outer s H E hcd hr hgd => ?_
  exact (ss_cons (s_asg (pp_tup (pq_cons (pp_sub (pp_call (t__law_lot T) (hr.mono (by decide)) (fun z => nomatch z) rfl (takes_of rfl rfl rfl rfl) True.intro (pq_cons (pp_var 0) (pq_cons pp_int pq_nil))) pp_int) (pq_cons (pp_sub (pp_call (t__law_lot T) (hr.mono (by decide)) (fun z => nomatch z) rfl (takes_of rfl rfl rfl rfl) True.intro (pq_cons (pp_var 0) (pq_cons pp_int pq_nil))) pp_int) (pq_cons (pp_sub (pp_call (t__law_lot T) (hr.mono (by decide)) (fun z => nomatch z) rfl (takes_of rfl rfl rfl rfl) True.intro (pq_cons (pp_var 0) (pq_cons pp_int pq_nil))) pp_int) pq_nil)))) (g_tp (gs_cons (g_nm 1 nd) (gs_cons (g_nm 2 nd) (gs_cons (g_nm 3 nd) gs_nil)))))
      (ss_cons (s_par 4 5 nd (pq_cons (pp_sub (pp_mul (pp_var 1) (pp_var 1)) (pp_var 2)) (pq_cons (pp_add (pp_sub (pp_mul (pp_mul (pp_var 1) (pp_var 1)) (pp_var 1)) (pp_mul (pp_mul pp_int (pp_var 1)) (pp_var 2))) (pp_mul pp_int (pp_var 3))) pq_nil)) rfl)
      (ss_cons (s_set 6 nd (pp_ifx (pb_cmp (op_eqD hr.units) opS_eq (pp_mod (pp_T call_int1 caS_int rfl T.f_int b_int (pq_cons (pp_var 4) pq_nil)) pp_int) pp_int (nomark _)) (pp_tup (pq_cons (pp_T call_int1 caS_int rfl T.f_int b_int (pq_cons (pp_fdiv (pp_var 4) pp_int) pq_nil)) (pq_cons (pp_neg (pp_var 1)) (pq_cons pp_int pq_nil)))) pp_str))
      (ss_cons (s_if (PW.pt (pbw_or (pb_cmp (op_neD hr.units) opS_ne (pp_heard (k := 4) (xd := "_law_few_right") Fh (fun cdg => heard_gives rfl rfl rfl rfl rfl rfl T.g_WebError T.g_Misfit T.f_isinstance) T.hk rfl T.g__law_heard scH (.inl rfl) bdH T.lam (by decide) hcd rfl (hr.mono (by decide)) (LamX.lamS_by (by kernel_rfl)) rfl (fun _ _ _ _ _ => rfl) fun A outer s H E f' c' hr => (pp_call (t_polynomial_from T) (hr.mono (by decide)) (fun z => nomatch z) rfl (takes_of rfl rfl rfl rfl) True.intro (pq_cons (PF.frz (pf_lst (pq_cons pp_int (pq_cons (pp_var 1) (pq_cons (pp_var 2) pq_nil))))) pq_nil))) (pp_var 6) (nomark _)) (pbw_or1 (pb_cmp (op_neD hr.units) opS_ne (pp_call (t_polynomial_from T) (hr.mono (by decide)) (fun z => nomatch z) rfl (takes_of rfl rfl rfl rfl) True.intro (pq_cons (pp_tup (pq_cons pp_int (pq_cons (pp_var 1) pq_nil))) pq_nil)) (pp_tup (pq_cons (pp_neg (pp_var 1)) (pq_cons pp_int pq_nil))) (nomark _))))) (ss_one (s_ret pp_bl)) ss_nil)
      (ss_cons (s_set 7 nd (pp_and (pp_cmp (op_eqD hr.units) opS_eq (pp_mod (pp_T call_int1 caS_int rfl T.f_int b_int (pq_cons (pp_var 4) pq_nil)) pp_int) pp_int (nomark _)) (pp_one (pp_cmp (op_eqD hr.units) opS_eq (pp_mod (pp_T call_int1 caS_int rfl T.f_int b_int (pq_cons (pp_var 5) pq_nil)) pp_int) pp_int (nomark _)))))
      (ss_cons (s_set 6 nd (pp_ifx (pb_val (pp_var 7)) (pp_tup (pq_cons (pp_neg (pp_T call_int1 caS_int rfl T.f_int b_int (pq_cons (pp_fdiv (pp_var 5) pp_int) pq_nil))) (pq_cons (pp_T call_int1 caS_int rfl T.f_int b_int (pq_cons (pp_fdiv (pp_var 4) pp_int) pq_nil)) (pq_cons (pp_neg (pp_var 1)) (pq_cons pp_int pq_nil))))) pp_str))
      (ss_one (s_ret (pp_cmp (op_eqD hr.units) opS_eq (pp_heard (k := 4) (xd := "_law_few_right") Fh (fun cdg => heard_gives rfl rfl rfl rfl rfl rfl T.g_WebError T.g_Misfit T.f_isinstance) T.hk rfl T.g__law_heard scH (.inl rfl) bdH T.lam (by decide) hcd rfl (hr.mono (by decide)) (LamX.lamS_by (by kernel_rfl)) rfl (fun _ _ _ _ _ => rfl) fun A outer s H E f' c' hr => (pp_call (t_polynomial_from T) (hr.mono (by decide)) (fun z => nomatch z) rfl (takes_of rfl rfl rfl rfl) True.intro (pq_cons (PF.frz (pf_lst (pq_cons pp_int (pq_cons (pp_var 1) (pq_cons (pp_var 2) (pq_cons (pp_var 3) pq_nil)))))) pq_nil))) (pp_var 6) (nomark _))))))))))

theorem t_law {P : Program} {w : World} {K : PySem.W.Frag} {mg : Str → Option Value} {base : Heap} (T : Facts P w K mg base) : FnM P w K mg base true 8 "law" 1 m_law := by
  obtain ⟨fd, F⟩ := T.d_law
  obtain ⟨fdh, Fh⟩ := T.d__law_heard
  have scH : FnScope Ng ["ask"] (defScope (top 26)) := scopeOf (by decide +kernel)
  have bdH : ∀ (kV doc pm : Value) (an : Option Addr) (cdv ct : Value) (us : List Value), us.length = 1 → bindArgs (PySem.W.fnOf "_law_heard" "_law_heard" (defArgs (top 26)) (defBody (top 26)) (defScope (top 26)) .none kV doc pm an cdv ct) ⟨us, []⟩ = pure ((["ask"] : List Str).zip us) := fun _ _ _ _ _ _ us hl => match us, hl with | [_], _ => rfl
  have nd : (["script", "jar", "lap", "traces", "turn", "told", "one"] : List Str).Nodup := by decide +kernel
  refine FnM.of (k := 7) (kp := 0) (N := ["script", "jar", "lap", "traces", "turn", "told", "one"]) (ps := ["script"]) F (scopeOf (by decide +kernel)) T.g_law (fun _ _ _ _ _ _ us hl => match us, hl with | [_], _ => rfl) fun cdv A outer s H E hcd hr hgd => ?_
  exact (ss_cons (s_set 1 nd (pp_call (t__law_jar T) (hr.mono (by decide)) (fun z => nomatch z) rfl (takes_of rfl rfl rfl rfl) True.intro (pq_cons (pp_var 0) pq_nil)))
      (ss_cons (s_for (it_range1 rfl T.f_range (pq_cons pp_int pq_nil)) (g_nm 2 nd) (ss_cons (s_if (PW.pt (pbw_or (pb_not (pb_val (pp_call (t__law_product_right T) (hr.mono (by decide)) hgd rfl (takes_of rfl rfl rfl rfl) True.intro (pq_cons (pp_var 1) pq_nil)))) (pbw_or (pb_not (pb_val (pp_call (t__law_any_right T) (hr.mono (by decide)) (fun z => nomatch z) rfl (takes_of rfl rfl rfl rfl) True.intro (pq_cons (pp_var 1) pq_nil)))) (pbw_or1 (pb_not (pb_val (pp_call (t__law_few_right T) (hr.mono (by decide)) (fun z => nomatch z) rfl (takes_of rfl rfl rfl rfl) True.intro (pq_cons (pp_var 1) pq_nil)))))))) (ss_one (s_ret pp_bl)) ss_nil)
      (ss_cons (s_set 3 nd (PF.frz (pf_cat (PF.frz (pf_lst (pq_cons pp_int pq_nil))) (PF.frz (pf_lc nd (it_range1 rfl T.f_range (pq_cons pp_int pq_nil)) (own := [("turn", 4)]) (blkOf (by kernel_rfl)) (slots_sub (by decide)) (fun s H C cl fp => (g_nm 4 nd)) (fun s H C cl fp => ptb_nil) (fun s H C cl fp => (pp_sub (pp_call (t__law_lot T) (hr.mono (by decide)) (fun z => nomatch z) rfl LamX.takes0 True.intro (pq_cons (pp_var 1) (pq_cons pp_int pq_nil))) pp_int)))))))
      (ss_cons (s_set 5 nd (pp_heard (k := 4) (xd := "law") Fh (fun cdg => heard_gives rfl rfl rfl rfl rfl rfl T.g_WebError T.g_Misfit T.f_isinstance) T.hk rfl T.g__law_heard scH (.inl rfl) bdH T.lam (by decide) hcd rfl (hr.mono (by decide)) (LamX.lamS_by (by kernel_rfl)) rfl (fun _ _ _ _ _ => rfl) fun A outer s H E f' c' hr => (pp_call (t_polynomial_from T) (hr.mono (by decide)) (fun z => nomatch z) rfl (takes_of rfl rfl rfl rfl) True.intro (pq_cons (pp_var 3) pq_nil))))
      (ss_cons (s_if (PW.pt (pbw_or (PW.pt (pbw_and (pb_val (pp_B call_isi caS_isi rfl T.f_isinstance b_isinstance (pq_cons (pp_var 5) (pq_cons (pp_ty rfl T.f_tuple b_tuple) pq_nil)))) (pbw_and1 (PW.pt (pbw_or (pb_cmp (op_neD hr.units) opS_ne (pp_ix (pp_var 5) (pp_neg pp_int) (fun _ _ => rfl)) pp_int (nomark _)) (pbw_or1 (pb_cmp (op_neD hr.units) opS_ne (pp_call (t_traces_from T) (hr.mono (by decide)) (fun z => nomatch z) rfl (takes_of rfl rfl rfl rfl) True.intro (pq_cons (pp_var 5) (pq_cons pp_int pq_nil))) (pp_T call_tuple_of caS_tuple rfl T.f_tuple b_tuple (pq_cons (pp_var 3) pq_nil)) (nomark _)))))))) (pbw_or1 (pb_cmp (op_eqD hr.units) opS_eq (pp_var 5) pp_str (nomark _))))) (ss_one (s_ret pp_bl)) ss_nil)
      (ss_cons (s_set 6 nd (PF.frz (pf_lst (pq_cons pp_int (pq_cons pp_int (pq_cons (pp_mul pp_int (pp_call (t__law_lot T) (hr.mono (by decide)) (fun z => nomatch z) rfl (takes_of rfl rfl rfl rfl) True.intro (pq_cons (pp_var 1) (pq_cons pp_int pq_nil)))) (pq_cons pp_int pq_nil)))))))
      (ss_one (s_if (pb_cmp (op_eqD hr.units) opS_eq (pp_heard (k := 4) (xd := "law") Fh (fun cdg => heard_gives rfl rfl rfl rfl rfl rfl T.g_WebError T.g_Misfit T.f_isinstance) T.hk rfl T.g__law_heard scH (.inl rfl) bdH T.lam (by decide) hcd rfl (hr.mono (by decide)) (LamX.lamS_by (by kernel_rfl)) rfl (fun _ _ _ _ _ => rfl) fun A outer s H E f' c' hr => (pp_call (t_polynomial_from T) (hr.mono (by decide)) (fun z => nomatch z) rfl (takes_of rfl rfl rfl rfl) True.intro (pq_cons (PF.frz (pf_cat (pp_var 6) (PF.frz (pf_lst (pq_cons (pp_add (pp_fdiv (pp_mul (pp_ix (pp_var 6) pp_int (fun _ _ => rfl)) (pp_ix (pp_var 6) pp_int (fun _ _ => rfl))) pp_int) (pp_mul pp_int (pp_call (t__law_lot T) (hr.mono (by decide)) (fun z => nomatch z) rfl (takes_of rfl rfl rfl rfl) True.intro (pq_cons (pp_var 1) (pq_cons pp_int pq_nil))))) pq_nil))))) pq_nil))) pp_str (nomark _)) (ss_one (s_ret pp_bl)) ss_nil))))))) (passes_of rfl))
      (ss_cons (s_if (pb_cmp (op_neD hr.units) opS_ne (pp_call (t_traces_from T) (hr.mono (by decide)) (fun z => nomatch z) rfl (takes_of rfl rfl rfl rfl) True.intro (pq_cons (PF.frz (pf_lst (pq_cons pp_int (pq_cons (pp_neg pp_int) (pq_cons (pp_neg pp_int) (pq_cons pp_int pq_nil)))))) (pq_cons pp_int pq_nil))) (pp_call (t__law_powers T) (hr.mono (by decide)) (fun z => nomatch z) rfl (takes_of rfl rfl rfl rfl) True.intro (pq_cons (PF.frz (pf_lst (pq_cons pp_int (pq_cons (pp_neg pp_int) (pq_cons pp_int pq_nil))))) (pq_cons pp_int pq_nil))) (nomark _)) (ss_one (s_ret pp_bl)) ss_nil)
      (ss_one (s_ret (pp_and (pp_cmp (op_eqD hr.units) opS_eq (pp_ix (pp_call (t_traces_from T) (hr.mono (by decide)) (fun z => nomatch z) rfl (takes_of rfl rfl rfl rfl) True.intro (pq_cons (PF.frz (pf_lst (pq_cons (pp_neg pp_int) (pq_cons (pp_neg pp_int) (pq_cons pp_int pq_nil))))) (pq_cons pp_int pq_nil))) pp_int (fun _ _ => rfl)) pp_int (nomark _)) (pp_one (pp_cmp (op_eqD hr.units) opS_eq (pp_call (t_traces_from T) (hr.mono (by decide)) (fun z => nomatch z) rfl (takes_of rfl rfl rfl rfl) True.intro (pq_cons (PF.frz (pf_lst (pq_cons pp_int (pq_cons pp_int pq_nil)))) (pq_cons pp_int pq_nil))) (pp_tup (pq_cons pp_int (pq_cons pp_int (pq_cons pp_int pq_nil)))) (nomark _)))))))))
end M2

namespace M2
open PySem PySem.Spec PyProof.Rows L2

def dOf (i : Nat) (x : Str) : He.DefD := ⟨(x, none), x, x, defArgs (top i), defBody (top i), defScope (top i), [], []⟩
def iniOf (i : Nat) : Stmt := match top i with
  | .ClassDef _ _ _ (s :: _) _ _ _ _ _ _ _ => s
  | s => s
def dIn (i : Nat) (x q : Str) : He.DefD := ⟨(x, some "__init__"), "__init__", q, defArgs (iniOf i), defBody (iniOf i), defScope (iniOf i), [], []⟩
def fnL0 : List He.DefD := [dOf 5 "is_integer", dOf 6 "is_within", dOf 7 "are_numbers", dOf 8 "need_number", dOf 13 "are_some", dOf 14 "need_polynomial", dOf 15 "newton", dOf 16 "next_length", dOf 17 "lengths_of", dOf 18 "traces_from", dOf 19 "polynomial_from", dOf 21 "_law_jar"]
def fnL1 : List He.DefD := [dOf 22 "_law_lot", dOf 23 "_law_take", dOf 24 "_law_times", dOf 25 "_law_powers", dOf 26 "_law_heard", dOf 27 "_law_product_right", dOf 28 "_law_any_right", dOf 29 "_law_few_right", dOf 30 "law", dIn 2 "BadNumber" "BadNumber.__init__", dIn 3 "Misfit" "Misfit.__init__"]
def fnL : List He.DefD := fnL0 ++ fnL1
def faL0 : List He.Fa := [.glo "is_integer", .glo "is_within", .glo "are_numbers", .glo "need_number", .glo "are_some", .glo "need_polynomial", .glo "newton", .glo "next_length", .glo "lengths_of", .glo "traces_from", .glo "polynomial_from", .glo "_law_jar"]
def faL1 : List He.Fa := [.glo "_law_lot", .glo "_law_take", .glo "_law_times", .glo "_law_powers", .glo "_law_heard", .glo "_law_product_right", .glo "_law_any_right", .glo "_law_few_right", .glo "law", .glo "WebError", .glo "Misfit", .glo "BadNumber"]
def faL2 : List He.Fa := [.free "abs", .free "all", .free "bool", .free "enumerate", .free "int", .free "isinstance", .free "len", .free "list", .free "min", .free "range", .free "repr", .free "sum"]
def faL3 : List He.Fa := [.free "tuple", .free "zip", .int "LEAST_NUMBERS" 2, .int "MOST_NUMBERS" 25, .int "MOST_LENGTH" 100]
def faL : List He.Fa := faL0 ++ faL1 ++ faL2 ++ faL3
def looseL0 : List Str := ["WebError", "BadNumber", "Misfit", "is_integer", "is_within", "are_numbers", "need_number", "LEAST_NUMBERS", "MOST_NUMBERS", "MOST_LENGTH", "are_some", "need_polynomial"]
def looseL1 : List Str := ["newton", "next_length", "lengths_of", "traces_from", "polynomial_from", "_law_jar", "_law_lot", "_law_take", "_law_times", "_law_powers", "_law_heard", "_law_product_right"]
def looseL2 : List Str := ["_law_any_right", "_law_few_right"]
def looseL : List Str := looseL0 ++ looseL1 ++ looseL2
def tfL : List He.Defn := lamDefs.map fun x => (x, none)
def exL (K : PySem.W.Frag) : Bool := errB K "BadNumber" "part" && errB K "Misfit" "part" && (errs.all fun x => hearB K x) && lamDefs.all fun x => lamDefs.all fun y => !decide (tabT K x = tabT K y) || decide (x = y)
abbrev R : PySem.W.OpenRow := PySem.W.OpenLaw.row PySem.Challenge.rw_littlewebs_k32_closed_walks_there_and_ba
abbrev hk : PySem.W.Hook := He.hookX 5 faL fnL [] tfL exL
def ob (s : PySem.W.SharedT) : He.AlX := He.obsX 5 faL fnL [] tfL exL (HandSHeadRun.getT s)
theorem ob_eq (s : PySem.W.SharedT) : ob s = hk.obs s.abs := He.obsX_eq (HandSHeadRun.getT_eq s)
theorem run (w : World) : HandSHeadRun.RunEq R (PySem.W.view R.prog [30]) hk ob 3000 looseL w := by
  intro os
  kernel_rfl
section
variable {w : World} {K : PySem.W.Frag} {h : Heap} {mg : Str → Option Value}
theorem facts {P : Program} {base : Heap} (X : K.In h) (G : h.Ns mainGlobals mg) (c : He.SaysX faL fnL [] tfL exL w h K) (tb : ∀ y ∈ lamDefs, LamX.TabB base mg (He.codeOf K (y, none)) (tabT K y)) : Facts P w K mg base := by
  have cd := c.t.d
  have ce := c.more
  unfold exL at ce
  simp only [Bool.and_eq_true, List.all_eq_true] at ce
  obtain ⟨⟨⟨x0, x1⟩, x2⟩, x3⟩ := ce
  have g_is_integer : mg "is_integer" = some (.ref (He.ga K "is_integer")) := He.glo_ok X G (cd.fact 0 rfl)
  have g_is_within : mg "is_within" = some (.ref (He.ga K "is_within")) := He.glo_ok X G (cd.fact 1 rfl)
  have g_are_numbers : mg "are_numbers" = some (.ref (He.ga K "are_numbers")) := He.glo_ok X G (cd.fact 2 rfl)
  have g_need_number : mg "need_number" = some (.ref (He.ga K "need_number")) := He.glo_ok X G (cd.fact 3 rfl)
  have g_are_some : mg "are_some" = some (.ref (He.ga K "are_some")) := He.glo_ok X G (cd.fact 4 rfl)
  have g_need_polynomial : mg "need_polynomial" = some (.ref (He.ga K "need_polynomial")) := He.glo_ok X G (cd.fact 5 rfl)
  have g_newton : mg "newton" = some (.ref (He.ga K "newton")) := He.glo_ok X G (cd.fact 6 rfl)
  have g_next_length : mg "next_length" = some (.ref (He.ga K "next_length")) := He.glo_ok X G (cd.fact 7 rfl)
  have g_lengths_of : mg "lengths_of" = some (.ref (He.ga K "lengths_of")) := He.glo_ok X G (cd.fact 8 rfl)
  have g_traces_from : mg "traces_from" = some (.ref (He.ga K "traces_from")) := He.glo_ok X G (cd.fact 9 rfl)
  have g_polynomial_from : mg "polynomial_from" = some (.ref (He.ga K "polynomial_from")) := He.glo_ok X G (cd.fact 10 rfl)
  have g__law_jar : mg "_law_jar" = some (.ref (He.ga K "_law_jar")) := He.glo_ok X G (cd.fact 11 rfl)
  have g__law_lot : mg "_law_lot" = some (.ref (He.ga K "_law_lot")) := He.glo_ok X G (cd.fact 12 rfl)
  have g__law_take : mg "_law_take" = some (.ref (He.ga K "_law_take")) := He.glo_ok X G (cd.fact 13 rfl)
  have g__law_times : mg "_law_times" = some (.ref (He.ga K "_law_times")) := He.glo_ok X G (cd.fact 14 rfl)
  have g__law_powers : mg "_law_powers" = some (.ref (He.ga K "_law_powers")) := He.glo_ok X G (cd.fact 15 rfl)
  have g__law_heard : mg "_law_heard" = some (.ref (He.ga K "_law_heard")) := He.glo_ok X G (cd.fact 16 rfl)
  have g__law_product_right : mg "_law_product_right" = some (.ref (He.ga K "_law_product_right")) := He.glo_ok X G (cd.fact 17 rfl)
  have g__law_any_right : mg "_law_any_right" = some (.ref (He.ga K "_law_any_right")) := He.glo_ok X G (cd.fact 18 rfl)
  have g__law_few_right : mg "_law_few_right" = some (.ref (He.ga K "_law_few_right")) := He.glo_ok X G (cd.fact 19 rfl)
  have g_law : mg "law" = some (.ref (He.ga K "law")) := He.glo_ok X G (cd.fact 20 rfl)
  have g_WebError : mg "WebError" = some (.ref (He.ga K "WebError")) := He.glo_ok X G (cd.fact 21 rfl)
  have g_Misfit : mg "Misfit" = some (.ref (He.ga K "Misfit")) := He.glo_ok X G (cd.fact 22 rfl)
  have g_BadNumber : mg "BadNumber" = some (.ref (He.ga K "BadNumber")) := He.glo_ok X G (cd.fact 23 rfl)
  have e_BadNumber : ErrG P w K mg base "BadNumber" "part" := by
    obtain ⟨fd, F⟩ := cd.def_ 21 (d := dIn 2 "BadNumber" "BadNumber.__init__") rfl
    exact ErrG.of (errB_ok x0) g_BadNumber F (scopeOf (by kernel_rfl)) (fun _ _ _ _ _ _ us hl => match us, hl with | [_, _], _ => rfl) (.inl rfl) (.inl rfl) rfl rfl
  have e_Misfit : ErrG P w K mg base "Misfit" "part" := by
    obtain ⟨fd, F⟩ := cd.def_ 22 (d := dIn 3 "Misfit" "Misfit.__init__") rfl
    exact ErrG.of (errB_ok x1) g_Misfit F (scopeOf (by kernel_rfl)) (fun _ _ _ _ _ _ us hl => match us, hl with | [_, _], _ => rfl) (.inl rfl) (.inl rfl) rfl rfl
  refine { g_is_integer := g_is_integer, g_is_within := g_is_within, g_are_numbers := g_are_numbers, g_need_number := g_need_number, g_are_some := g_are_some, g_need_polynomial := g_need_polynomial, g_newton := g_newton, g_next_length := g_next_length, g_lengths_of := g_lengths_of, g_traces_from := g_traces_from, g_polynomial_from := g_polynomial_from, g__law_jar := g__law_jar, g__law_lot := g__law_lot, g__law_take := g__law_take, g__law_times := g__law_times, g__law_powers := g__law_powers, g__law_heard := g__law_heard, g__law_product_right := g__law_product_right, g__law_any_right := g__law_any_right, g__law_few_right := g__law_few_right, g_law := g_law, g_WebError := g_WebError, g_Misfit := g_Misfit, g_BadNumber := g_BadNumber, f_abs := He.free_ok X G (cd.fact 24 rfl), f_all := He.free_ok X G (cd.fact 25 rfl), f_bool := He.free_ok X G (cd.fact 26 rfl), f_enumerate := He.free_ok X G (cd.fact 27 rfl), f_int := He.free_ok X G (cd.fact 28 rfl), f_isinstance := He.free_ok X G (cd.fact 29 rfl), f_len := He.free_ok X G (cd.fact 30 rfl), f_list := He.free_ok X G (cd.fact 31 rfl), f_min := He.free_ok X G (cd.fact 32 rfl), f_range := He.free_ok X G (cd.fact 33 rfl), f_repr := He.free_ok X G (cd.fact 34 rfl), f_sum := He.free_ok X G (cd.fact 35 rfl), f_tuple := He.free_ok X G (cd.fact 36 rfl), f_zip := He.free_ok X G (cd.fact 37 rfl), i_LEAST_NUMBERS := He.int_ok X G (cd.fact 38 rfl), i_MOST_NUMBERS := He.int_ok X G (cd.fact 39 rfl), i_MOST_LENGTH := He.int_ok X G (cd.fact 40 rfl), d_is_integer := cd.def_ 0 rfl, d_is_within := cd.def_ 1 rfl, d_are_numbers := cd.def_ 2 rfl, d_need_number := cd.def_ 3 rfl, d_are_some := cd.def_ 4 rfl, d_need_polynomial := cd.def_ 5 rfl, d_newton := cd.def_ 6 rfl, d_next_length := cd.def_ 7 rfl, d_lengths_of := cd.def_ 8 rfl, d_traces_from := cd.def_ 9 rfl, d_polynomial_from := cd.def_ 10 rfl, d__law_jar := cd.def_ 11 rfl, d__law_lot := cd.def_ 12 rfl, d__law_take := cd.def_ 13 rfl, d__law_times := cd.def_ 14 rfl, d__law_powers := cd.def_ 15 rfl, d__law_heard := cd.def_ 16 rfl, d__law_product_right := cd.def_ 17 rfl, d__law_any_right := cd.def_ 18 rfl, d__law_few_right := cd.def_ 19 rfl, d_law := cd.def_ 20 rfl, e_BadNumber := e_BadNumber, e_Misfit := e_Misfit, hk := fun x hx => hearB_ok (x2 x hx), lam := ⟨tb, fun x hx y hy e => ?_⟩ }
  have z := x3 x hx y hy
  simp only [Bool.or_eq_true, Bool.not_eq_true', decide_eq_false_iff_not, decide_eq_true_eq] at z
  exact z.resolve_left fun n => n e
theorem lawFacts {fa : Addr} (hl : ∀ ns : List Int, ns.length ≤ 63 → (∀ z ∈ ns, Builtin.Int.intBits z ≤ 1048576) → ∃ S, m_law [.wls ns] [] = .ok (.bl true) S) (X : K.In h) (G : h.Ns mainGlobals mg) (hfa : mg ("law" : Str) = some (.ref fa)) (c : He.SaysX faL fnL [] tfL exL w h K) : LawM R.prog w K 8 63 "law" mg fa h m_law where
  tabE := fun y hy => c.empty (y, none) (List.mem_map.mpr ⟨y, hy, rfl⟩)
  tabN := fun y hy => c.out (y, none) (List.mem_map.mpr ⟨y, hy, rfl⟩)
  head := fun y hy => PySem.W.codeHd_of_K X (c.hd (y, none) (List.mem_map.mpr ⟨y, hy, rfl⟩))
  nm := hfa
  fn := fun base _ _ tb => t_law (facts X G c tb)
  holds := hl
end
end M2
open PySem PySem.W PySem.Calls PyProof.Rows
theorem M2.holds_of (hl : ∀ ns : List Int, ns.length ≤ 63 → (∀ z ∈ ns, Builtin.Int.intBits z ≤ 1048576) → ∃ S, M2.m_law [.wls ns] [] = .ok (.bl true) S) : PySem.Challenge.rw_littlewebs_k32_closed_walks_there_and_ba.Holds := by
  w_on; o_law
  refine HandSHeadRun.head_any (r := M2.R) (q := view M2.R.prog [30]) (H := M2.hk) (ob := M2.ob) (M := 3000) (loose := M2.looseL) (d := HandSHeadRun.topDef M2.R.prog 30) (kwd := []) M2.ob_eq
    (by kernel_rfl) (fun s => by kernel_rfl) M2.run (by kernel_rfl) (by kernel_rfl) (by kernel_rfl) (by rfl) (by first | assumption | decide +kernel) (by decide +kernel) ⟨rfl, rfl, rfl, rfl, rfl, by decide +kernel⟩ ?hw ?hc
  case hw => w_witness2
  case hc =>
    refine M2.lawM_walk (l := PySem.Challenge.rw_littlewebs_k32_closed_walks_there_and_ba) (n := 63) (k := 8) (x := "law") (m := M2.m_law) rfl (by decide) (by kernel_rfl) ⟨rfl, by decide, by decide⟩ ?F
    intro w mg fa h Y G hmg0
    obtain ⟨K, KX, c⟩ := Y
    have hmg : mg ("law" : PySem.Str) = some (.ref fa) := by
      have e : (HandSHeadRun.topDef M2.R.prog 30).name = ("law" : PySem.Str) := by kernel_rfl
      rw [← e]
      exact hmg0
    exact ⟨K, KX, M2.lawFacts hl KX G hmg c⟩

/-! P1: the mirrors computed: ground words, the checks -/
namespace M2
open PySem PySem.Spec PyProof.Rows L2

abbrev iL (ns : List Int) : List D := ns.map D.int
def Wf (S : Sto) : Prop := bndS S.length S = true
theorem bnds_ints (n : Nat) : ∀ ns : List Int, bnds n (iL ns) = true
  | [] => rfl
  | _ :: ns => by show (true && bnds n (iL ns)) = true; rw [bnds_ints n ns]; rfl
theorem wf_app {S J : Sto} (h : Wf S) : bndS S.length (S ++ J) = true := by
  unfold Wf bndS at h
  unfold bndS
  rw [List.take_left']
  · rw [List.take_length] at h; exact h
  · rfl
theorem clo_pl {n : Nat} {d : D} {S : Sto} (h : ∀ m, d ≠ .loc m) (hb : bnd n d = true) (hS : bndS n S = true) : clo n d S = .ok d (S.take n) := by
  cases d with
  | loc m => exact absurd rfl (h m)
  | _ => show (if (bnd n _ && bndS n S) = true then _ else _) = _; rw [hb, hS]; rfl
theorem clo_app {d : D} {S J : Sto} (h : ∀ m, d ≠ .loc m) (hb : bnd S.length d = true) (hS : Wf S) : clo S.length d (S ++ J) = .ok d S := by
  rw [clo_pl h hb (wf_app hS), List.take_left' rfl]
theorem clo_same {d : D} {S : Sto} (h : ∀ m, d ≠ .loc m) (hb : bnd S.length d = true) (hS : Wf S) : clo S.length d S = .ok d S := by
  have e := clo_app (J := []) h hb hS
  rw [List.append_nil] at e
  exact e
/-- a list that is handed back -/
theorem clo_loc {m : Nat} {ds : List D} {S S' : Sto} (hm : S.length ≤ m) (e : S'[m]? = some (.lst ds)) (hb : bnds S.length ds = true) (hS : bndS S.length S' = true) : clo S.length (.loc m) S' = .ok (.lst ds) (S'.take S.length) := by
  show (if m < S.length then _ else (match S'[m]? with
    | some (O.lst ds) => if (bnds S.length ds && bndS S.length S') = true then Res.ok (D.lst ds) (S'.take S.length) else Res.stuck
    | _ => Res.stuck)) = _
  rw [if_neg (by omega), e]
  show (if (bnds S.length ds && bndS S.length S') = true then Res.ok (D.lst ds) (S'.take S.length) else Res.stuck) = _
  rw [hb, hS]
  rfl
/-! ### loops -/
theorem lcL_map {c : Src} {t : Tg} {te : Env → M D} {ρ : Env} {S : Sto} (g : D → D) (hc : srcsOk c S) : ∀ (ds acc : List D), (∀ d ∈ ds, ∃ ρ1, t.run d ρ = some ρ1 ∧ te ρ1 S = .ok (g d) S) → acc.length + ds.length ≤ sizeLine →
    lcL c t tYesB te ρ ds acc S = .ok (acc ++ ds.map g) S
  | [], acc, _, _ => by
    show gd c S (Res.ok acc S) Res.stuck = _
    rw [gd_pos hc, List.map_nil, List.append_nil]
  | d :: ds, acc, h, hl => by
    obtain ⟨ρ1, h1, h2⟩ := h d List.mem_cons_self
    have ih := lcL_map g hc ds (acc ++ [g d]) (fun d hd => h d (List.mem_cons_of_mem _ hd)) (by rw [List.length_append, List.length_cons, List.length_nil]; rw [List.length_cons] at hl; omega)
    show gd c S (match t.run d ρ with
      | none => Res.stuck
      | some ρ1 => match tYesB ρ1 S with
        | .ok true S1 => (match te ρ1 S1 with
          | .ok y S2 => if acc.length < sizeLine then lcL c t tYesB te ρ ds (acc ++ [y]) S2 else Res.stuck
          | _ => Res.stuck)
        | .ok false S1 => lcL c t tYesB te ρ ds acc S1
        | _ => Res.stuck) Res.stuck = _
    rw [gd_pos hc, h1]
    show (match te ρ1 S with
          | .ok y S2 => if acc.length < sizeLine then lcL c t tYesB te ρ ds (acc ++ [y]) S2 else Res.stuck
          | _ => Res.stuck) = _
    rw [h2]
    show (if acc.length < sizeLine then lcL c t tYesB te ρ ds (acc ++ [g d]) S else Res.stuck) = _
    rw [if_pos (by rw [List.length_cons] at hl; omega), ih, List.map_cons, List.append_assoc]
    rfl
/-- with a store that changes -/
theorem lcL_inv {t : Tg} {te : Env → M D} {ρ : Env} (I : List D → Sto → Prop) : ∀ (ds acc : List D) (S : Sto), (∀ acc S, ∀ d ∈ ds, I acc S → acc.length < sizeLine → ∃ ρ1 y S', t.run d ρ = some ρ1 ∧ te ρ1 S = .ok y S' ∧ I (acc ++ [y]) S') → I acc S → acc.length + ds.length ≤ sizeLine →
    ∃ r S', lcL [] t tYesB te ρ ds acc S = .ok r S' ∧ I r S' ∧ r.length = acc.length + ds.length
  | [], acc, S, _, hI, _ => ⟨acc, S, rfl, hI, rfl⟩
  | d :: ds, acc, S, h, hI, hl => by
    have hlt : acc.length < sizeLine := by rw [List.length_cons] at hl; omega
    obtain ⟨ρ1, y, S1, h1, h2, h3⟩ := h acc S d List.mem_cons_self hI hlt
    obtain ⟨r, S', e1, e2, e3⟩ := lcL_inv I ds (acc ++ [y]) S1 (fun acc S d hd => h acc S d (List.mem_cons_of_mem _ hd)) h3 (by rw [List.length_append, List.length_cons, List.length_nil]; rw [List.length_cons] at hl; omega)
    refine ⟨r, S', ?_, e2, by rw [e3, List.length_append, List.length_cons, List.length_cons, List.length_nil]; omega⟩
    show (match t.run d ρ with
      | none => Res.stuck
      | some ρ1 => match tYesB ρ1 S with
        | .ok true S1 => (match te ρ1 S1 with
          | .ok y S2 => if acc.length < sizeLine then lcL [] t tYesB te ρ ds (acc ++ [y]) S2 else Res.stuck
          | _ => Res.stuck)
        | .ok false S1 => lcL [] t tYesB te ρ ds acc S1
        | _ => Res.stuck) = _
    rw [h1]
    show (match te ρ1 S with
          | .ok y S2 => if acc.length < sizeLine then lcL [] t tYesB te ρ ds (acc ++ [y]) S2 else Res.stuck
          | _ => Res.stuck) = _
    rw [h2]
    show (if acc.length < sizeLine then lcL [] t tYesB te ρ ds (acc ++ [y]) S1 else Res.stuck) = _
    rw [if_pos hlt, e1]
theorem forL_inv {c : Src} {t : Tg} {body : Blk} (I : List D → Env → Sto → Prop) (h1 : ∀ d ds ρ S, I (d :: ds) ρ S → srcsOk c S ∧ ∃ ρ1 ρ2 S2, t.run d ρ = some ρ1 ∧ body ρ1 S = .nx ρ2 S2 ∧ I ds ρ2 S2) (h0 : ∀ ρ S, I [] ρ S → srcsOk c S) :
    ∀ (ds : List D) (ρ : Env) (S : Sto), I ds ρ S → ∃ ρ' S', forL c t body ds ρ S = .nx ρ' S' ∧ I [] ρ' S'
  | [], ρ, S, hI => ⟨ρ, S, gd_pos (h0 ρ S hI), hI⟩
  | d :: ds, ρ, S, hI => by
    obtain ⟨hc, ρ1, ρ2, S2, e1, e2, hI2⟩ := h1 d ds ρ S hI
    obtain ⟨ρ', S', e3, e4⟩ := forL_inv I h1 h0 ds ρ2 S2 hI2
    refine ⟨ρ', S', ?_, e4⟩
    show gd c S (match t.run d ρ with
      | none => Flow.stuck
      | some ρ1 => match body ρ1 S with
        | .nx ρ2 S2 => forL c t body ds ρ2 S2
        | .ct ρ2 S2 => forL c t body ds ρ2 S2
        | .bk ρ2 S2 => Flow.nx ρ2 S2
        | r => r) Flow.stuck = _
    rw [gd_pos hc, e1]
    show (match body ρ1 S with
        | .nx ρ2 S2 => forL c t body ds ρ2 S2
        | .ct ρ2 S2 => forL c t body ds ρ2 S2
        | .bk ρ2 S2 => Flow.nx ρ2 S2
        | r => r) = _
    rw [e2]
    exact e3
/-- one turn -/
theorem forL_cons {c : Src} {t : Tg} {body : Blk} {d : D} {ds : List D} {ρ ρ1 : Env} {S : Sto} (hc : srcsOk c S) (e : t.run d ρ = some ρ1) : forL c t body (d :: ds) ρ S = (match body ρ1 S with
        | .nx ρ2 S2 => forL c t body ds ρ2 S2
        | .ct ρ2 S2 => forL c t body ds ρ2 S2
        | .bk ρ2 S2 => Flow.nx ρ2 S2
        | r => r) := by
  show gd c S (match t.run d ρ with
      | none => Flow.stuck
      | some ρ1 => match body ρ1 S with
        | .nx ρ2 S2 => forL c t body ds ρ2 S2
        | .ct ρ2 S2 => forL c t body ds ρ2 S2
        | .bk ρ2 S2 => Flow.nx ρ2 S2
        | r => r) Flow.stuck = _
  rw [gd_pos hc, e]
/-! ### the checks -/
variable {S : Sto}
theorem c_is_integer (hS : Wf S) (i : Int) : m_is_integer [.int i] S = .ok (.bl true) S := clo_same (d := .bl true) (fun _ z => nomatch z) rfl hS
/-! ### one step at a time -/
section
variable {ρ ρ1 ρ2 : Env} {S S1 S2 S3 : Sto} {a b d : D} {ds es : List D} {f g h : Env → M D} {u v : Env → M (List D)} {t w : Env → M Bool} {p q : Blk} {c : Bool}
theorem v_var {i : Nat} (e : ρ[i]? = some (some d) := by rfl) : eVar i ρ S = .ok d S := by unfold eVar; rw [e]; rfl
theorem v_c : eC d ρ S = .ok d S := rfl
theorem bind_ok {α β : Type} {m : M α} {k : α → M β} {x : α} (e : m S = .ok x S1) : mbind m k S = k x S1 := by unfold mbind; rw [e]
theorem bind_er {α β : Type} {m : M α} {k : α → M β} {x : Xc} (e : m S = .err x S1) : mbind m k S = .err x S1 := by unfold mbind; rw [e]
theorem v_op {k : Sto → D → D → Option D} (e1 : f ρ S = .ok a S1) (e2 : g ρ S1 = .ok b S2) (e3 : k S2 a b = some d) : eOp k f g ρ S = .ok d S2 := by
  unfold eOp
  rw [bind_ok e1, bind_ok e2]
  show mopt (k S2 a b) S2 = _
  rw [e3]; rfl
theorem v_un {k : Sto → D → Option D} (e1 : f ρ S = .ok a S1) (e3 : k S1 a = some d) : eUn k f ρ S = .ok d S1 := by
  unfold eUn
  rw [bind_ok e1]
  show mopt (k S1 a) S1 = _
  rw [e3]; rfl
theorem v_nil : qNil ρ S = .ok [] S := rfl
theorem v_cons (e1 : f ρ S = .ok d S1) (e2 : u ρ S1 = .ok ds S2) : qCons f u ρ S = .ok (d :: ds) S2 := by
  unfold qCons
  rw [bind_ok e1, bind_ok e2]; rfl
theorem v_B {k : Sto → List D → Option D} (e1 : u ρ S = .ok ds S1) (e3 : k S1 ds = some d) : eB k u ρ S = .ok d S1 := by
  unfold eB
  rw [bind_ok e1]
  show mopt (k S1 ds) S1 = _
  rw [e3]; rfl
theorem v_fB {k : Sto → List D → Option (List D)} (e1 : u ρ S = .ok ds S1) (e3 : k S1 ds = some es) : fB k u ρ S = .ok es S1 := by
  unfold fB
  rw [bind_ok e1]
  show mopt (k S1 ds) S1 = _
  rw [e3]; rfl
theorem v_fOp {k : Sto → D → D → Option (List D)} (e1 : f ρ S = .ok a S1) (e2 : g ρ S1 = .ok b S2) (e3 : k S2 a b = some es) : fOp k f g ρ S = .ok es S2 := by
  unfold fOp
  rw [bind_ok e1, bind_ok e2]
  show mopt (k S2 a b) S2 = _
  rw [e3]; rfl
theorem v_fUn {k : Sto → D → Option (List D)} (e1 : f ρ S = .ok a S1) (e3 : k S1 a = some es) : fUn k f ρ S = .ok es S1 := by
  unfold fUn
  rw [bind_ok e1]
  show mopt (k S1 a) S1 = _
  rw [e3]; rfl
theorem v_fSl {lo hi : Option (Env → M D)} {l r : Option Int} (e1 : f ρ S = .ok a S1) (e2 : pEnd lo ρ S1 = .ok l S2) (e4 : pEnd hi ρ S2 = .ok r S3) (e3 : kSl S3 a l r = some es) : fSl f lo hi ρ S = .ok es S3 := by
  unfold fSl
  rw [bind_ok e1, bind_ok e2, bind_ok e4]
  show mopt (kSl S3 a l r) S3 = _
  rw [e3]; rfl
theorem v_slT {lo hi : Option (Env → M D)} {l r : Option Int} (e1 : f ρ S = .ok a S1) (e2 : pEnd lo ρ S1 = .ok l S2) (e4 : pEnd hi ρ S2 = .ok r S3) (e3 : kSlT a l r = some d) : eSlT f lo hi ρ S = .ok d S3 := by
  unfold eSlT
  rw [bind_ok e1, bind_ok e2, bind_ok e4, e3]; rfl
theorem v_no : pEnd none ρ S = .ok none S := rfl
theorem v_end {i : Int} (e1 : f ρ S = .ok (.int i) S1) : pEnd (some f) ρ S = .ok (some i) S1 := by
  unfold pEnd
  show mbind (f ρ) _ S = _
  rw [bind_ok e1]; rfl
theorem v_frz (e1 : u ρ S = .ok ds S1) : eFrz u ρ S = .ok (.lst ds) S1 := by unfold eFrz; rw [bind_ok e1]; rfl
theorem v_loc (e1 : u ρ S = .ok ds S1) : eLoc u ρ S = .ok (.loc S1.length) (S1 ++ [.lst ds]) := by unfold eLoc; rw [bind_ok e1]; rfl
theorem v_lst (e1 : u ρ S = .ok ds S1) (hl : ds.length ≤ sizeLine := by first | decide | (simp only [List.length_cons, List.length_nil]; rw [sizeLine_eq]; omega)) : fLst u ρ S = .ok ds S1 := by
  unfold fLst
  rw [bind_ok e1]
  show (if ds.length ≤ sizeLine then mret ds else mstk) S1 = _
  rw [if_pos hl]; rfl
theorem v_tup (e1 : u ρ S = .ok ds S1) (hl : ds.length ≤ sizeLine := by first | decide | (simp only [List.length_cons, List.length_nil]; rw [sizeLine_eq]; omega)) : eTup u ρ S = .ok (.tup ds) S1 := by
  unfold eTup
  rw [bind_ok e1]
  show (if ds.length ≤ sizeLine then mret (D.tup ds) else mstk) S1 = _
  rw [if_pos hl]; rfl
theorem v_call {n : Nat} {m : List D → M D} {r : Res D} (e1 : u ρ S = .ok ds S1) (e2 : m ds S1 = r) (hn : ds.length = n := by rfl) : eCall n m u ρ S = r := by
  unfold eCall
  rw [bind_ok e1]
  show (if ds.length = n then m ds else mstk) S1 = _
  rw [if_pos hn, e2]
theorem v_mt {k : Sto → D → List D → Option (D × Sto)} (e1 : f ρ S = .ok d S1) (e2 : lstOf S1 d = some es) (e3 : u ρ S1 = .ok ds S2) (e4 : k S2 d ds = some (a, S3)) : eMt k f u ρ S = .ok a S3 := by
  unfold eMt
  rw [bind_ok e1]
  show (match lstOf S1 d with
    | some _ => mbind (u ρ) (fun ds S' => mst (k S' d ds)) S1
    | none => Res.stuck) = _
  rw [e2]
  show mbind (u ρ) (fun ds S' => mst (k S' d ds)) S1 = _
  rw [bind_ok e3, e4]; rfl
theorem v_bOf (e1 : f ρ S = .ok (.bl c) S1) : bOf f ρ S = .ok c S1 := by unfold bOf; rw [bind_ok e1]; rfl
theorem v_bNot (e1 : t ρ S = .ok c S1) : bNot t ρ S = .ok (!c) S1 := by unfold bNot; rw [bind_ok e1]; rfl
theorem v_bAnd1 (e1 : t ρ S = .ok true S1) (e2 : w ρ S1 = .ok c S2) : bAnd t w ρ S = .ok c S2 := by unfold bAnd; rw [bind_ok e1]; exact e2
theorem v_bAnd0 (e1 : t ρ S = .ok false S1) : bAnd t w ρ S = .ok false S1 := by unfold bAnd; rw [bind_ok e1]; rfl
theorem v_bOr0 (e1 : t ρ S = .ok false S1) (e2 : w ρ S1 = .ok c S2) : bOr t w ρ S = .ok c S2 := by unfold bOr; rw [bind_ok e1]; exact e2
theorem v_bOr1 (e1 : t ρ S = .ok true S1) : bOr t w ρ S = .ok true S1 := by unfold bOr; rw [bind_ok e1]; rfl
theorem v_not (e1 : f ρ S = .ok (.bl c) S1) : eNot f ρ S = .ok (.bl (!c)) S1 := by unfold eNot; rw [bind_ok e1]; rfl
theorem v_and1 (e1 : f ρ S = .ok (.bl true) S1) (e2 : g ρ S1 = .ok d S2) : eAnd f g ρ S = .ok d S2 := by unfold eAnd; rw [bind_ok e1]; exact e2
theorem v_and0 (e1 : f ρ S = .ok (.bl false) S1) : eAnd f g ρ S = .ok (.bl false) S1 := by unfold eAnd; rw [bind_ok e1]; rfl
theorem v_or0 (e1 : f ρ S = .ok (.bl false) S1) (e2 : g ρ S1 = .ok d S2) : eOr f g ρ S = .ok d S2 := by unfold eOr; rw [bind_ok e1]; exact e2
theorem v_or1 (e1 : f ρ S = .ok (.bl true) S1) : eOr f g ρ S = .ok (.bl true) S1 := by unfold eOr; rw [bind_ok e1]; rfl
theorem v_if1 (e1 : t ρ S = .ok true S1) (e2 : f ρ S1 = .ok d S2) : eIf t f g ρ S = .ok d S2 := by unfold eIf; rw [bind_ok e1]; exact e2
theorem v_if0 (e1 : t ρ S = .ok false S1) (e2 : g ρ S1 = .ok d S2) : eIf t f g ρ S = .ok d S2 := by unfold eIf; rw [bind_ok e1]; exact e2
theorem v_ch1 {k k' : Sto → D → D → Option D} (e1 : f ρ S = .ok a S1) (e2 : g ρ S1 = .ok b S2) (e3 : k S2 a b = some (.bl true)) (e4 : h ρ S2 = .ok d S3) {r : D} (e5 : k' S3 b d = some r) : eChain k k' f g h ρ S = .ok r S3 := by
  unfold eChain
  rw [bind_ok e1, bind_ok e2]
  show (match k S2 a b with
    | some (.bl true) => mbind (h ρ) (fun c S' => mopt (k' S' b c) S') S2
    | some (.bl false) => Res.ok (.bl false) S2
    | _ => Res.stuck) = _
  rw [e3]
  show mbind (h ρ) (fun c S' => mopt (k' S' b c) S') S2 = _
  rw [bind_ok e4]
  show mopt (k' S3 b d) S3 = _
  rw [e5]; rfl
theorem v_lc {it : Env → M (List D × Src)} {tg : Tg} {vs : List Nat} {src : Src} (e1 : it ρ S = .ok (ds, src) S1) {r : Res (List D)} (e2 : lcL src tg t f (wipeE ρ vs) ds [] S1 = r) : fLc it tg t f vs ρ S = r := by
  unfold fLc
  rw [bind_ok e1]; exact e2
theorem v_iB {k : Sto → List D → Option (List D × Src)} {r : List D × Src} (e1 : u ρ S = .ok ds S1) (e3 : k S1 ds = some r) : iB k u ρ S = .ok r S1 := by
  unfold iB
  rw [bind_ok e1]
  show mopt (k S1 ds) S1 = _
  rw [e3]; rfl
theorem v_iSeq {r : List D × Src} (e1 : f ρ S = .ok d S1) (e3 : kSeq S1 d = some r) : iSeq f ρ S = .ok r S1 := by
  unfold iSeq
  rw [bind_ok e1]
  show mopt (kSeq S1 d) S1 = _
  rw [e3]; rfl
theorem w_ex {α : Type} {m : Env → M α} {k : Env → α → Sto → Flow} {x : α} (e : m ρ S = .ok x S1) : sE m k ρ S = k ρ x S1 := by unfold sE; rw [e]
theorem w_exE {α : Type} {m : Env → M α} {k : Env → α → Sto → Flow} {x : Xc} (e : m ρ S = .err x S1) : sE m k ρ S = .er x ρ S1 := by unfold sE; rw [e]
theorem w_seq (e : p ρ S = .nx ρ1 S1) : bSeq p q ρ S = q ρ1 S1 := by unfold bSeq; rw [e]
theorem w_seqR (e : p ρ S = .rt d S1) : bSeq p q ρ S = .rt d S1 := by unfold bSeq; rw [e]
theorem w_seqE {x : Xc} (e : p ρ S = .er x ρ1 S1) : bSeq p q ρ S = .er x ρ1 S1 := by unfold bSeq; rw [e]
theorem w_set {i : Nat} (e : f ρ S = .ok d S1) : bSet i f ρ S = .nx (ρ.set i (some d)) S1 := w_ex e
theorem w_ret (e : f ρ S = .ok d S1) : bRet f ρ S = .rt d S1 := w_ex e
theorem w_exp (e : f ρ S = .ok d S1) : bExp f ρ S = .nx ρ S1 := w_ex e
theorem w_expE {x : Xc} (e : f ρ S = .err x S1) : bExp f ρ S = .er x ρ S1 := w_exE e
theorem w_if1 (e : t ρ S = .ok true S1) : bIf t p q ρ S = p ρ S1 := w_ex e
theorem w_if0 (e : t ρ S = .ok false S1) : bIf t p q ρ S = q ρ S1 := w_ex e
theorem w_par {i j : Nat} (e : u ρ S = .ok [a, b] S1) : bPar i j u ρ S = .nx ((ρ.set i (some a)).set j (some b)) S1 := w_ex e
theorem w_par3 {i j l : Nat} (e : u ρ S = .ok [a, b, d] S1) : bPar3 i j l u ρ S = .nx (((ρ.set i (some a)).set j (some b)).set l (some d)) S1 := w_ex e
theorem w_asg {tg : Tg} (e : f ρ S = .ok d S1) (e2 : tg.run d ρ = some ρ1) : bAsg tg f ρ S = .nx ρ1 S1 := by
  unfold bAsg
  rw [w_ex e]
  show (match tg.run d ρ with
    | some ρ' => Flow.nx ρ' S1
    | none => Flow.stuck) = _
  rw [e2]
theorem w_setIx (e1 : h ρ S = .ok d S1) (e2 : f ρ S1 = .ok a S2) (e3 : g ρ S2 = .ok b S3) {S4 : Sto} (e4 : kSetIx S3 a b d = some S4) : bSetIx f g h ρ S = .nx ρ S4 := by
  unfold bSetIx
  refine (w_ex (x := (a, b, d)) (S1 := S3) ?_).trans ?_
  · rw [bind_ok e1, bind_ok e2, bind_ok e3]; rfl
  · show (match kSetIx S3 a b d with
      | some S' => Flow.nx ρ S'
      | none => Flow.stuck) = _
    rw [e4]
theorem w_for {it : Env → M (List D × Src)} {tg : Tg} {src : Src} (e : it ρ S = .ok (ds, src) S1) : bFor it tg p ρ S = forL src tg p ds ρ S1 := w_ex e
theorem w_raise {x f : Str} (e : u ρ S = .ok [d] S1) : bRaise x f u ρ S = .er ⟨x, [(f, d)]⟩ ρ S1 := w_ex e
theorem w_while1 {n : Nat} (e : t ρ S = .ok true S1) (e2 : p ρ S1 = .nx ρ2 S2) : whileL t p (n + 1) ρ S = whileL t p n ρ2 S2 := by
  show (match t ρ S with
    | .ok true S1 => (match p ρ S1 with
      | .nx ρ2 S2 => whileL t p n ρ2 S2
      | .ct ρ2 S2 => whileL t p n ρ2 S2
      | .bk ρ2 S2 => Flow.nx ρ2 S2
      | r => r)
    | .ok false S1 => .nx ρ S1
    | .err x S1 => .er x ρ S1
    | .stuck => .stuck) = _
  rw [e]
  show (match p ρ S1 with
      | .nx ρ2 S2 => whileL t p n ρ2 S2
      | .ct ρ2 S2 => whileL t p n ρ2 S2
      | .bk ρ2 S2 => Flow.nx ρ2 S2
      | r => r) = _
  rw [e2]
theorem w_while0 {n : Nat} (e : t ρ S = .ok false S1) : whileL t p (n + 1) ρ S = .nx ρ S1 := by
  show (match t ρ S with
    | .ok true S1 => (match p ρ S1 with
      | .nx ρ2 S2 => whileL t p n ρ2 S2
      | .ct ρ2 S2 => whileL t p n ρ2 S2
      | .bk ρ2 S2 => Flow.nx ρ2 S2
      | r => r)
    | .ok false S1 => .nx ρ S1
    | .err x S1 => .er x ρ S1
    | .stuck => .stuck) = _
  rw [e]
/-- the end of a def -/
theorem run_rt {N : Nat} (e : p (envOf N ds) S = .rt d S1) {r : Res D} (h : clo S.length d S1 = r) : runDef N 0 p ds S = r := by
  unfold runDef
  rw [e]; exact h
theorem run_nx {N : Nat} (e : p (envOf N ds) S = .nx ρ1 S1) {r : Res D} (h : clo S.length .non S1 = r) : runDef N 0 p ds S = r := by
  unfold runDef
  rw [e]; exact h
theorem run_er {N : Nat} {x : Xc} (e : p (envOf N ds) S = .er x ρ1 S) (hb : bndF S.length x.fs = true) (hS : Wf S) : runDef N 0 p ds S = .err x S := by
  unfold runDef
  rw [e]
  show (if (bndF S.length x.fs && bndS S.length S) = true then Res.err x (S.take S.length) else .stuck) = _
  rw [hb, show bndS S.length S = true from hS, List.take_length]; rfl
end
theorem c_is_within (hS : Wf S) (i a b : Int) : m_is_within [.int i, .int a, .int b] S = .ok (.bl (decide (a ≤ i ∧ i ≤ b))) S := by
  have t1 : bNot (bOf (eCall 1 m_is_integer (qCons (eVar 0) qNil))) (envOf 3 [.int i, .int a, .int b]) S = .ok false S := v_bNot (v_bOf (v_call (v_cons v_var v_nil) (c_is_integer hS i)))
  by_cases h : i < a
  · have e : (decide (i < a)) = true := decide_eq_true h
    rw [decide_eq_false (show ¬ (a ≤ i ∧ i ≤ b) from fun z => by omega)]
    exact run_rt (w_seqR ((w_if1 (v_bOr0 t1 (v_bAnd1 (v_bOf (v_op v_var v_c rfl)) (v_bOf (v_op v_var v_var (by rw [← e]; rfl)))))).trans (w_ret v_c))) (clo_same (fun _ z => nomatch z) rfl hS)
  · have e : (decide (i < a)) = false := decide_eq_false h
    refine run_rt (d := .bl (decide (a ≤ i ∧ i ≤ b))) ((w_seq ((w_if0 (v_bOr0 t1 (v_bAnd1 (v_bOf (v_op v_var v_c rfl)) (v_bOf (v_op v_var v_var (by rw [← e]; rfl)))))).trans rfl)).trans (w_ret (v_or0 (v_op v_var v_c rfl) (v_op v_var v_var ?_)))) (clo_same (fun _ z => nomatch z) rfl hS)
    show some (D.bl (decide (i ≤ b))) = _
    rw [show decide (i ≤ b) = decide (a ≤ i ∧ i ≤ b) from by congr 1; exact propext ⟨fun z => ⟨by omega, z⟩, fun z => z.2⟩]
end M2

/-! P2: the package's defs computed -/
namespace M2
open PySem PySem.Spec PyProof.Rows L2

/-! ### words on data -/
def SqD (d : D) (ns : List Int) : Prop := d = .lst (iL ns) ∨ d = .tup (iL ns)
theorem SqD.bnd {d : D} {ns : List Int} (h : SqD d ns) (n : Nat) : M2.bnd n d = true := by rcases h with rfl | rfl <;> exact bnds_ints n ns
theorem SqD.seq {d : D} {ns : List Int} (h : SqD d ns) (S : Sto) : kSeq S d = some (iL ns, []) := by rcases h with rfl | rfl <;> rfl
theorem SqD.sq {d : D} {ns : List Int} (h : SqD d ns) (S : Sto) : seqOf S d = some (iL ns) := by rcases h with rfl | rfl <;> rfl
theorem SqD.len {d : D} {ns : List Int} (h : SqD d ns) (S : Sto) : kLen S [d] = some (.int ns.length) := by
  rcases h with rfl | rfl <;> show some (D.int (iL ns).length) = _ <;> rw [List.length_map]
theorem SqD.ix {d : D} {ns : List Int} (h : SqD d ns) (S : Sto) (i : Int) : kIx S d (.int i) = atI (iL ns) i := by rcases h with rfl | rfl <;> rfl
theorem SqD.nloc {d : D} {ns : List Int} (h : SqD d ns) : ∀ m, d ≠ .loc m := by rcases h with rfl | rfl <;> exact fun _ z => nomatch z
theorem atI_nat {α : Type} {xs : List α} {i : Int} {j : Nat} (h : i = j) (hj : j < xs.length) : atI xs i = xs[j]? := by
  subst h
  unfold atI ixN
  rw [if_pos (by omega), if_pos (by omega)]
  rfl
theorem atI_int {ns : List Int} {i : Int} {j : Nat} (h : i = j) (hj : j < ns.length) : atI (iL ns) i = some (.int (ns.getD j 0)) := by
  rw [atI_nat h (by rw [List.length_map]; exact hj), List.getElem?_map, List.getD_eq_getElem?_getD, List.getElem?_eq_getElem hj]
  rfl
theorem atI_last {ns : List Int} {x : Int} (h : ns ≠ []) : atI (iL ns) (-1) = some (.int (ns.getD (ns.length - 1) 0)) := by
  have hp : 0 < ns.length := List.length_pos_iff.mpr h
  unfold atI ixN
  rw [if_neg (by omega), if_pos (by rw [List.length_map]; omega)]
  show (iL ns)[(-1 + ((iL ns).length : Int)).toNat]? = _
  have e : (-1 + ((iL ns).length : Int)).toNat = ns.length - 1 := by rw [List.length_map]; omega
  rw [e, List.getElem?_map, List.getD_eq_getElem?_getD, List.getElem?_eq_getElem (by omega)]
  rfl
theorem dpys_iL : ∀ ns : List Int, dpys (iL ns) = some (ns.map PyData.int)
  | [] => rfl
  | n :: ns => by
    show (match dpy (.int n), dpys (iL ns) with
      | some p, some q => some (p :: q)
      | _, _ => none) = _
    rw [dpys_iL ns]
    rfl
theorem canLay_iL : ∀ ns : List Int, PyData.canLayAll0 (ns.map PyData.int) = true
  | [] => by simp [PyData.canLayAll0]
  | n :: ns => by simp [PyData.canLayAll0, PyData.canLay0, canLay_iL ns]
theorem depth_iL : ∀ ns : List Int, PyData.depthAll (ns.map PyData.int) = 0
  | [] => by simp [PyData.depthAll]
  | n :: ns => by simp [PyData.depthAll, PyData.depth, depth_iL ns]
theorem shaped_int (i : Int) : SeqAt.shaped (.int i) = true := by simp [SeqAt.shaped, PyData.canLay0, PyData.depth]
theorem shaped_tup (ns : List Int) : SeqAt.shaped (.tuple (ns.map PyData.int)) = true := by simp [SeqAt.shaped, PyData.canLay0, PyData.depth, canLay_iL, depth_iL]
theorem shaped_lst (ns : List Int) : SeqAt.shaped (.list (ns.map PyData.int)) = true := by simp [SeqAt.shaped, PyData.canLay0, PyData.depth, canLay_iL, depth_iL]
theorem eqv_iL : ∀ a b : List Int, PyData.eqvAll (a.map PyData.int) (b.map PyData.int) = decide (a = b)
  | [], [] => by simp [PyData.eqvAll]
  | [], b :: bs => by simp [PyData.eqvAll]
  | a :: as, [] => by simp [PyData.eqvAll]
  | a :: as, b :: bs => by
    simp only [List.map_cons, PyData.eqvAll, PyData.eqv, eqv_iL as bs]
    by_cases h1 : a = b <;> by_cases h2 : as = bs <;> simp [h1, h2]
theorem kEqB_int (S : Sto) (i j : Int) : kEqB S (.int i) (.int j) = some (decide (i = j)) := by
  show (if SeqAt.shaped (.int i) = true ∧ SeqAt.shaped (.int j) = true then some (PyData.eqv (.int i) (.int j)) else none) = _
  rw [if_pos ⟨shaped_int i, shaped_int j⟩]
  simp only [PyData.eqv]
  by_cases h : i = j <;> simp [h]
theorem kEqB_tup (S : Sto) (a b : List Int) : kEqB S (.tup (iL a)) (.tup (iL b)) = some (decide (a = b)) := by
  unfold kEqB
  have e : ∀ c : List Int, dpyS S (.tup (iL c)) = some (.tuple (c.map PyData.int)) := fun c => by
    show (dpys (iL c)).map PyData.tuple = _
    rw [dpys_iL]; rfl
  rw [e a, e b]
  show (if SeqAt.shaped (.tuple (a.map PyData.int)) = true ∧ SeqAt.shaped (.tuple (b.map PyData.int)) = true then some (PyData.eqv (.tuple (a.map PyData.int)) (.tuple (b.map PyData.int))) else none) = _
  rw [if_pos ⟨shaped_tup a, shaped_tup b⟩]
  simp only [PyData.eqv, eqv_iL]
theorem kEq_int (S : Sto) (i j : Int) : kEq S (.int i) (.int j) = some (.bl (decide (i = j))) := by unfold kEq; rw [kEqB_int]; rfl
theorem kNe_int (S : Sto) (i j : Int) : kNe S (.int i) (.int j) = some (.bl (!decide (i = j))) := by unfold kNe; rw [kEqB_int]; rfl
theorem kEq_tup (S : Sto) (a b : List Int) : kEq S (.tup (iL a)) (.tup (iL b)) = some (.bl (decide (a = b))) := by unfold kEq; rw [kEqB_tup]; rfl
theorem kNe_tup (S : Sto) (a b : List Int) : kNe S (.tup (iL a)) (.tup (iL b)) = some (.bl (!decide (a = b))) := by unfold kNe; rw [kEqB_tup]; rfl
theorem bools_t : ∀ ns : List Int, bools? ((iL ns).map fun _ => D.bl true) = some (ns.map fun _ => true)
  | [] => rfl
  | n :: ns => by
    show (bools? ((iL ns).map fun _ => D.bl true)).map (true :: ·) = _
    rw [bools_t ns]; rfl
theorem all_t (ns : List Int) : (ns.map fun _ => true).all id = true := by simp
abbrev small (i : Int) : Prop := -(2 ^ 64) < i ∧ i < 2 ^ 64
theorem mulOk_l {i j : Int} (h : small i) : mulOk i j = true := by unfold mulOk; rw [decide_eq_true h]; rfl
theorem mulOk_r {i j : Int} (h : small j) : mulOk i j = true := by
  unfold mulOk
  rw [show decide (-(2 ^ 64) < j ∧ j < 2 ^ 64) = true from decide_eq_true h, Bool.or_true]; rfl
theorem kMul_int {i j : Int} (S : Sto) (h : mulOk i j = true) : kMul S (.int i) (.int j) = some (.int (i * j)) := by
  show ((if mulOk i j = true then some (i * j) else none).map D.int).or _ = _
  rw [if_pos h]; rfl
theorem sz {n : Nat} (h : n ≤ 1000000) : n ≤ sizeLine := by rw [sizeLine_eq]; omega

theorem srcs0 {S : Sto} : srcsOk [] S := fun _ z => nomatch z
theorem endBl {S : Sto} {c : Bool} (hS : Wf S) : clo S.length (.bl c) S = .ok (.bl c) S := clo_same (d := .bl c) (fun _ z => nomatch z) rfl hS
theorem endInt {S : Sto} {c : Int} (hS : Wf S) : clo S.length (.int c) S = .ok (.int c) S := clo_same (d := .int c) (fun _ z => nomatch z) rfl hS
theorem endNon {S : Sto} (hS : Wf S) : clo S.length .non S = .ok .non S := clo_same (d := .non) (fun _ z => nomatch z) rfl hS
theorem endTup {S J : Sto} {ns : List Int} (hS : Wf S) : clo S.length (.tup (iL ns)) (S ++ J) = .ok (.tup (iL ns)) S := clo_app (d := .tup (iL ns)) (fun _ z => nomatch z) (bnds_ints _ ns) hS
theorem endNonJ {S J : Sto} (hS : Wf S) : clo S.length .non (S ++ J) = .ok .non S := clo_app (d := .non) (fun _ z => nomatch z) rfl hS
section
variable {S : Sto} {d : D} {ns : List Int}
theorem c_are_numbers (hS : Wf S) (h : SqD d ns) (hl : ns.length ≤ 1000) : m_are_numbers [d] S = .ok (.bl true) S := by
  refine run_rt (w_ret (v_and1 (v_B (v_cons v_var (v_cons (v_tup (v_cons v_c (v_cons v_c v_nil))) v_nil)) ?_) (v_B (v_cons (v_frz (v_lc (v_iSeq v_var (h.seq S)) (lcL_map (fun _ => .bl true) srcs0 (iL ns) [] (fun x hx => ?_) ?_))) v_nil) ?_))) (endBl hS)
  · rcases h with rfl | rfl <;> rfl
  · obtain ⟨i, _, rfl⟩ := List.mem_map.mp hx
    exact ⟨_, rfl, v_call (v_cons v_var v_nil) (c_is_integer hS i)⟩
  · rw [List.length_map]; exact sz (by simp only [List.length_nil]; omega)
  · show (bools? ([] ++ (iL ns).map fun _ => D.bl true)).map (fun ns => D.bl (ns.all id)) = _
    rw [List.nil_append, bools_t]
    show some (D.bl _) = _
    rw [all_t]
theorem c_are_some (hS : Wf S) (h : SqD d ns) (h2 : 2 ≤ ns.length) (h25 : ns.length ≤ 25) : m_are_some [d] S = .ok (.bl true) S := by
  refine run_rt (w_ret (v_and1 (v_call (v_cons v_var v_nil) (c_are_numbers hS h (by omega))) (v_ch1 v_c (v_B (v_cons v_var v_nil) (h.len S)) ?_ v_c ?_))) (endBl hS)
  · show some (D.bl (decide ((2 : Int) ≤ (ns.length : Int)))) = _
    rw [decide_eq_true (by omega)]
  · show some (D.bl (decide ((ns.length : Int) ≤ 25))) = _
    rw [decide_eq_true (by omega)]
theorem c_need_polynomial (hS : Wf S) (h : SqD d ns) (h2 : 2 ≤ ns.length) (h25 : ns.length ≤ 25) (h1 : ns.getD (ns.length - 1) 0 = 1) : m_need_polynomial [d] S = .ok .non S := by
  refine run_nx ((w_if0 (v_bOr0 (v_bNot (v_bOf (v_call (v_cons v_var v_nil) (c_are_some hS h h2 h25)))) (v_bOf (v_op (a := .int 1) (v_op v_var (v_un v_c rfl) ?_) v_c (kNe_int S 1 1))))).trans rfl) (endNon hS)
  · show kIx S d (.int (-1)) = _
    rw [h.ix, atI_last (x := 0) (fun z => by rw [z] at h2; cases h2), h1]
theorem c_need_number (hS : Wf S) (x : D) (i : Int) (hx : 0 ≤ i ∧ i ≤ 100) : m_need_number [.int i, x, .int 0, .int 100] S = .ok .non S := by
  have e := c_is_within hS i 0 100
  rw [decide_eq_true hx] at e
  exact run_nx ((w_if0 (v_bNot (v_bOf (v_call (v_cons v_var (v_cons v_var (v_cons v_var v_nil))) e)))).trans rfl) (endNon hS)
end
end M2

/-! P3: newton, the numbers of closed walks -/
namespace M2
open PySem PySem.Spec PyProof.Rows L2

def totL (ts : List Int) (k : Nat) : Nat → List Int → Int
  | _, [] => 0
  | a, x :: xs => ts.getD (k - a) 0 * x + totL ts k (a + 1) xs
def tot (ts fs : List Int) : Int := totL ts fs.length 0 fs
def newL (ts : List Int) : Nat → List Int → Option (List Int)
  | 0, fs => some fs
  | m + 1, fs => if (tot ts fs).fmod fs.length = 0 then newL ts m (fs ++ [(-(tot ts fs)).fdiv fs.length]) else none
theorem rng_succ (lo : Int) (n : Nat) : rng lo (n + 1) = .int lo :: rng (lo + 1) n := by
  unfold rng
  rw [List.range_succ_eq_map, List.map_cons, List.map_map]
  congr 1
  · simp
  · apply List.map_congr_left
    intro i _
    simp only [Function.comp]
    congr 1
    omega
theorem lstOf_loc {S : Sto} {n : Nat} {ds : List D} (e : S[n]? = some (.lst ds)) : lstOf S (.loc n) = some ds := by
  show (match S[n]? with
    | some (.lst ds) => some ds
    | _ => none) = _
  rw [e]
theorem locOf_loc {S : Sto} {n : Nat} {ds : List D} (e : S[n]? = some (.lst ds)) : locOf S (.loc n) = some (n, ds) := by
  show (match S[n]? with
    | some (.lst ds) => some (n, ds)
    | _ => none) = _
  rw [e]
theorem seqOf_loc {S : Sto} {n : Nat} {ds : List D} (e : S[n]? = some (.lst ds)) : seqOf S (.loc n) = some ds := lstOf_loc e
theorem last_get {S : Sto} {o : O} : (S ++ [o])[S.length]? = some o := by simp
theorem last_set {S : Sto} {o u : O} : (S ++ [o]).set S.length u = S ++ [u] := by simp
theorem kAppend_loc {S : Sto} {xs : List D} {y : D} (h : xs.length < sizeLine) : kAppend (S ++ [O.lst xs]) (.loc S.length) [y] = some (D.non, S ++ [O.lst (xs ++ [y])]) := by
  unfold kAppend
  rw [locOf_loc last_get]
  show (if xs.length < sizeLine then some (D.non, (S ++ [O.lst xs]).set S.length (O.lst (xs ++ [y]))) else none) = _
  rw [if_pos h, last_set]
theorem kLen_loc {S : Sto} {n : Nat} {ns : List Int} (e : S[n]? = some (.lst (iL ns))) : kLen S [.loc n] = some (.int ns.length) := by
  show (seqOf S (.loc n)).map (fun xs => D.int xs.length) = _
  rw [seqOf_loc e]
  show some (D.int (iL ns).length) = _
  rw [List.length_map]
theorem kIx_loc {S : Sto} {n : Nat} {ns : List Int} {i : Int} (e : S[n]? = some (.lst (iL ns))) : kIx S (.loc n) (.int i) = atI (iL ns) i := by
  show ((seqOf S (.loc n)).bind fun ds => atI ds i) = _
  rw [seqOf_loc e]; rfl
theorem kSum_ints {S : Sto} {ds : List D} {l : List Int} (e : ints? ds = some l) : kSum S [.lst ds] = some (.int l.sum) := by
  show (ints? ds).map (fun ns => D.int ns.sum) = _
  rw [e]; rfl
theorem wf_add {S : Sto} (h : Wf S) (ns : List Int) : Wf (S ++ [.lst (iL ns)]) := by
  have h0 : ∀ o ∈ S, bndO S.length o = true := by
    unfold Wf bndS at h
    rw [List.take_length] at h
    exact List.all_eq_true.mp h
  unfold Wf bndS
  rw [List.take_length]
  refine List.all_eq_true.mpr fun o ho => ?_
  rcases List.mem_append.mp ho with ho | ho
  · exact bndO_up (by simp) (h0 o ho)
  · rw [List.mem_singleton.mp ho]
    exact bnds_ints _ ns
where
  bndO_up {n m : Nat} {o : O} (h : n ≤ m) (b : bndO n o = true) : bndO m o = true := by
    cases o with
    | lst ds => exact ups h ds b
    | dic ds => exact upK h ds b
    | dit ds => exact upT h ds b
    | ins C ds => exact upF h ds b
    | dead => rfl
  up {n m : Nat} (h : n ≤ m) : ∀ (d : D), bnd n d = true → bnd m d = true
    | .loc k, b => decide_eq_true (Nat.lt_of_lt_of_le (of_decide_eq_true b) h)
    | .tup ds, b => ups h ds b
    | .lst ds, b => ups h ds b
    | .dic ds, b => upK h ds b
    | .dit ds, b => upT h ds b
    | .ins _ ds, b => upF h ds b
    | .non, _ => rfl
    | .bl _, _ => rfl
    | .int _, _ => rfl
    | .str _, _ => rfl
    | .ty _, _ => rfl
    | .glo _, _ => rfl
    | .wls _, _ => rfl
  ups {n m : Nat} (h : n ≤ m) : ∀ (d : List D), bnds n d = true → bnds m d = true
    | [], _ => rfl
    | d :: ds, b => Bool.and_eq_true_iff.mpr ⟨up h d (Bool.and_eq_true_iff.mp b).1, ups h ds (Bool.and_eq_true_iff.mp b).2⟩
  upK {n m : Nat} (h : n ≤ m) : ∀ (d : List (Key × D)), bndK n d = true → bndK m d = true
    | [], _ => rfl
    | (_, d) :: ds, b => Bool.and_eq_true_iff.mpr ⟨up h d (Bool.and_eq_true_iff.mp b).1, upK h ds (Bool.and_eq_true_iff.mp b).2⟩
  upT {n m : Nat} (h : n ≤ m) : ∀ (d : List (List Key × D)), bndT n d = true → bndT m d = true
    | [], _ => rfl
    | (_, d) :: ds, b => Bool.and_eq_true_iff.mpr ⟨up h d (Bool.and_eq_true_iff.mp b).1, upT h ds (Bool.and_eq_true_iff.mp b).2⟩
  upF {n m : Nat} (h : n ≤ m) : ∀ (d : List (Str × D)), bndF n d = true → bndF m d = true
    | [], _ => rfl
    | (_, d) :: ds, b => Bool.and_eq_true_iff.mpr ⟨up h d (Bool.and_eq_true_iff.mp b).1, upF h ds (Bool.and_eq_true_iff.mp b).2⟩

/-! ### newton -/
noncomputable abbrev nwB : Blk := bSeq (bSet 3 (eB kSum (qCons (eFrz (fLc (iB kEnum (qCons (eVar 1) qNil)) (.tp [(.nm 4), (.nm 5)]) tYesB (eOp kMul (eOp kIx (eVar 0) (eOp kSub (eVar 2) (eVar 4))) (eVar 5)) [4, 5])) qNil))) (bSeq (bIf (bOf (eOp kNe (eOp kMod (eVar 3) (eVar 2)) (eC (.int 0)))) (bRet (eC .non)) bNil) (bExp (eMt kAppend (eVar 1) (qCons (eOp kFdiv (eUn kNeg (eVar 3)) (eVar 2)) qNil))))
def gNw (ts : List Int) (k : Nat) : D → D
  | .tup [.int a, .int x] => .int (ts.getD (k - a.toNat) 0 * x)
  | _ => .non
theorem gNw_sum (ts : List Int) (k : Nat) : ∀ (fs : List Int) (a : Nat), ∃ l, ints? ((enumD a (iL fs)).map (gNw ts k)) = some l ∧ l.sum = totL ts k a fs
  | [], a => ⟨[], rfl, rfl⟩
  | x :: fs, a => by
    obtain ⟨l, h1, h2⟩ := gNw_sum ts k fs (a + 1)
    refine ⟨(ts.getD (k - a) 0 * x) :: l, ?_, ?_⟩
    · show (ints? ((enumD (a + 1) (iL fs)).map (gNw ts k))).map ((ts.getD (k - ((a : Nat) : Int).toNat) 0 * x) :: ·) = _
      rw [h1, Int.toNat_natCast]; rfl
    · rw [List.sum_cons, h2]; rfl
theorem mem_enumD : ∀ (fs : List Int) (a : Nat) (d : D), d ∈ enumD a (iL fs) → ∃ (b : Nat) (x : Int), d = .tup [.int b, .int x] ∧ a ≤ b ∧ b < a + fs.length ∧ x ∈ fs
  | [], a, d, h => nomatch h
  | x :: fs, a, d, h => by
    rcases List.mem_cons.mp (show d ∈ .tup [.int a, .int x] :: enumD (a + 1) (iL fs) from h) with h | h
    · exact ⟨a, x, h, Nat.le_refl _, by simp, List.mem_cons_self⟩
    · obtain ⟨b, y, h1, h2, h3, h4⟩ := mem_enumD fs (a + 1) d h
      exact ⟨b, y, h1, by omega, by rw [List.length_cons]; omega, List.mem_cons_of_mem _ h4⟩
section
variable {S : Sto} {d : D} {ts : List Int}
theorem nw_tot (h : SqD d ts) (hsm : ∀ x ∈ ts, small x) (fs : List Int) (hk : fs.length < ts.length) (h25 : ts.length ≤ 25) (x3 : Option D) :
    bSet 3 (eB kSum (qCons (eFrz (fLc (iB kEnum (qCons (eVar 1) qNil)) (.tp [(.nm 4), (.nm 5)]) tYesB (eOp kMul (eOp kIx (eVar 0) (eOp kSub (eVar 2) (eVar 4))) (eVar 5)) [4, 5])) qNil)) [some d, some (.loc S.length), some (.int fs.length), x3, none, none] (S ++ [.lst (iL fs)]) =
      .nx [some d, some (.loc S.length), some (.int fs.length), some (.int (tot ts fs)), none, none] (S ++ [.lst (iL fs)]) := by
  obtain ⟨l, h1, h2⟩ := gNw_sum ts fs.length fs 0
  have hsrc : srcsOk [(S.length, iL fs)] (S ++ [.lst (iL fs)]) := fun p hp => by
    rw [List.mem_singleton.mp hp]; exact last_get
  refine w_set (d := .int (tot ts fs)) (v_B (v_cons (v_frz (v_lc (ds := enumD 0 (iL fs)) (src := [(S.length, iL fs)]) (v_iB (v_cons v_var v_nil) ?_) (lcL_map (gNw ts fs.length) hsrc (enumD 0 (iL fs)) [] (fun y hy => ?_) ?_))) v_nil) ?_)
  · show (lstOf (S ++ [.lst (iL fs)]) (.loc S.length)).map (fun ds => (enumD 0 ds, srcOf (.loc S.length) ds)) = _
    rw [lstOf_loc last_get]; rfl
  · obtain ⟨b, x, rfl, _, hb, _⟩ := mem_enumD fs 0 y hy
    refine ⟨_, rfl, v_op (v_op v_var (v_op v_var v_var rfl) ((h.ix _ _).trans (atI_int (j := fs.length - b) (by omega) (by omega)))) v_var ((kMul_int _ (mulOk_l (hsm _ ?_))).trans ?_)⟩
    · rw [List.getD_eq_getElem?_getD, List.getElem?_eq_getElem (by omega)]
      exact List.getElem_mem _
    · show _ = some (D.int (ts.getD (fs.length - ((b : Nat) : Int).toNat) 0 * x))
      rw [Int.toNat_natCast]
  · rw [enumD_length, List.length_map]
    exact sz (by simp only [List.length_nil]; omega)
  · rw [List.nil_append, kSum_ints h1, h2]; rfl
theorem nw_loop (h : SqD d ts) (hsm : ∀ x ∈ ts, small x) (h25 : ts.length ≤ 25) : ∀ (m : Nat) (fs : List Int) (x2 x3 : Option D), fs.length + m = ts.length → 1 ≤ fs.length →
    (∀ gs, newL ts m fs = some gs → ∃ y2 y3, forL [] (.nm 2) nwB (rng fs.length m) [some d, some (.loc S.length), x2, x3, none, none] (S ++ [.lst (iL fs)]) = .nx [some d, some (.loc S.length), y2, y3, none, none] (S ++ [.lst (iL gs)])) ∧
    (newL ts m fs = none → ∃ gs : List Int, forL [] (.nm 2) nwB (rng fs.length m) [some d, some (.loc S.length), x2, x3, none, none] (S ++ [.lst (iL fs)]) = .rt .non (S ++ [.lst (iL gs)]))
  | 0, fs, x2, x3, _, _ => ⟨fun gs e => by cases e; exact ⟨x2, x3, rfl⟩, fun e => nomatch e⟩
  | m + 1, fs, x2, x3, hm, h1 => by
    have t1 := nw_tot (S := S) h hsm fs (by omega) h25 x3
    have hk0 : (fs.length : Int) ≠ 0 := by omega
    have hmod : kMod (S ++ [.lst (iL fs)]) (.int (tot ts fs)) (.int fs.length) = some (.int ((tot ts fs).fmod fs.length)) := by
      show (if (fs.length : Int) ≠ 0 then some ((tot ts fs).fmod fs.length) else none).map D.int = _
      rw [if_pos hk0]; rfl
    rw [rng_succ]
    have e0 : forL [] (.nm 2) nwB (.int fs.length :: rng ((fs.length : Int) + 1) m) [some d, some (.loc S.length), x2, x3, none, none] (S ++ [.lst (iL fs)]) = _ := forL_cons srcs0 rfl
    have e0 : forL [] (.nm 2) nwB (.int fs.length :: rng ((fs.length : Int) + 1) m) [some d, some (.loc S.length), x2, x3, none, none] (S ++ [.lst (iL fs)]) = (match nwB [some d, some (.loc S.length), some (.int fs.length), x3, none, none] (S ++ [.lst (iL fs)]) with
        | .nx ρ2 S2 => forL [] (.nm 2) nwB (rng ((fs.length : Int) + 1) m) ρ2 S2
        | .ct ρ2 S2 => forL [] (.nm 2) nwB (rng ((fs.length : Int) + 1) m) ρ2 S2
        | .bk ρ2 S2 => Flow.nx ρ2 S2
        | r => r) := e0
    by_cases hc : (tot ts fs).fmod fs.length = 0
    · have hdiv : kFdiv (S ++ [.lst (iL fs)]) (.int (-(tot ts fs))) (.int fs.length) = some (.int ((-(tot ts fs)).fdiv fs.length)) := by
        show (if (fs.length : Int) ≠ 0 ∧ (fs.length : Int).natAbs < 1073741824 then some ((-(tot ts fs)).fdiv fs.length) else none).map D.int = _
        rw [if_pos ⟨hk0, by omega⟩]; rfl
      have ap := kAppend_loc (S := S) (xs := iL fs) (y := .int ((-(tot ts fs)).fdiv fs.length)) (by rw [List.length_map, sizeLine_eq]; omega)
      have e1 : nwB [some d, some (.loc S.length), some (.int fs.length), x3, none, none] (S ++ [.lst (iL fs)]) = .nx [some d, some (.loc S.length), some (.int fs.length), some (.int (tot ts fs)), none, none] (S ++ [.lst (iL (fs ++ [(-(tot ts fs)).fdiv fs.length]))]) := by
        have el : iL (fs ++ [(-(tot ts fs)).fdiv fs.length]) = iL fs ++ [.int ((-(tot ts fs)).fdiv fs.length)] := List.map_append
        rw [el]
        exact (w_seq t1).trans ((w_seq ((w_if0 (v_bOf (v_op (v_op v_var v_var hmod) v_c ((kNe_int _ _ _).trans (by rw [decide_eq_true hc]; rfl))))).trans rfl)).trans (w_exp (v_mt v_var (lstOf_loc last_get) (v_cons (v_op (v_un v_var rfl) v_var hdiv) v_nil) ap)))
      rw [e0, e1]
      have ih := nw_loop h hsm h25 m (fs ++ [(-(tot ts fs)).fdiv fs.length]) (some (.int fs.length)) (some (.int (tot ts fs))) (by rw [List.length_append, List.length_singleton]; omega) (by rw [List.length_append]; omega)
      have en : newL ts (m + 1) fs = newL ts m (fs ++ [(-(tot ts fs)).fdiv fs.length]) := if_pos hc
      have el : ((fs ++ [(-(tot ts fs)).fdiv fs.length]).length : Int) = (fs.length : Int) + 1 := by rw [List.length_append, List.length_singleton]; omega
      rw [el] at ih
      rw [en]
      exact ih
    · have e1 : nwB [some d, some (.loc S.length), some (.int fs.length), x3, none, none] (S ++ [.lst (iL fs)]) = .rt .non (S ++ [.lst (iL fs)]) :=
        (w_seq t1).trans (w_seqR ((w_if1 (v_bOf (v_op (v_op v_var v_var hmod) v_c ((kNe_int _ _ _).trans (by rw [decide_eq_false hc]; rfl))))).trans (w_ret v_c)))
      rw [e0, e1]
      have en : newL ts (m + 1) fs = none := if_neg hc
      rw [en]
      exact ⟨fun gs e => (nomatch e), fun _ => ⟨fs, rfl⟩⟩
theorem kRange2_nat (S : Sto) (a b : Nat) (h : b ≤ 1000) (h' : a ≤ 1000) : kRange2 S [.int a, .int b] = some (rng a (b - a), []) := by
  have e : ((b : Int) - (a : Int)).toNat = b - a := by omega
  unfold kRange2
  dsimp only
  rw [if_pos ⟨by omega, by omega, by omega, by omega⟩, e]
/-- newton's answer -/
def newR (ts : List Int) : Option (List Int) := (newL ts (ts.length - 1) [1]).map List.reverse
def optT : Option (List Int) → D
  | some p => .tup (iL p)
  | none => .non
theorem c_newton (hS : Wf S) (h : SqD d ts) (hsm : ∀ x ∈ ts, small x) (h1 : 1 ≤ ts.length) (h25 : ts.length ≤ 25) : m_newton [d] S = .ok (optT (newR ts)) S := by
  obtain ⟨l1, l2⟩ := nw_loop (S := S) h hsm h25 (ts.length - 1) [1] none none (by rw [List.length_singleton]; omega) (Nat.le_refl _)
  have start : bSet 1 (eLoc (fLst (qCons (eC (.int 1)) qNil))) (envOf 6 [d]) S = .nx [some d, some (.loc S.length), none, none, none, none] (S ++ [.lst (iL [1])]) := w_set (v_loc (v_lst (v_cons v_c v_nil)))
  have it : iB kRange2 (qCons (eC (.int 1)) (qCons (eB kLen (qCons (eVar 0) qNil)) qNil)) [some d, some (.loc S.length), none, none, none, none] (S ++ [.lst (iL [1])]) = .ok (rng (1 : Nat) (ts.length - 1), []) (S ++ [.lst (iL [1])]) :=
    v_iB (v_cons v_c (v_cons (v_B (v_cons v_var v_nil) (h.len _)) v_nil)) (kRange2_nat _ 1 ts.length (by omega) (by omega))
  unfold newR
  cases e : newL ts (ts.length - 1) [1] with
  | none =>
    obtain ⟨gs, l2⟩ := l2 e
    exact run_rt ((w_seq start).trans (w_seqR ((w_for it).trans l2))) (endNonJ hS)
  | some gs =>
    obtain ⟨y2, y3, l1⟩ := l1 gs e
    refine run_rt ((w_seq start).trans ((w_seq ((w_for it).trans l1)).trans (w_ret (v_B (v_cons (v_frz (v_fUn v_var (es := iL gs.reverse) ?_)) v_nil) rfl)))) (endTup hS)
    show (lstOf (S ++ [.lst (iL gs)]) (.loc S.length)).map List.reverse = _
    rw [lstOf_loc last_get]
    show some (List.map D.int gs).reverse = some (List.map D.int gs.reverse)
    rw [List.map_reverse]
end
end M2

/-! P4: numbers of closed walks told by a polynomial, and back -/
namespace M2
open PySem PySem.Spec PyProof.Rows L2

/-- the sum of f 0 .. f (n - 1) -/
def su : Nat → (Nat → Int) → Int
  | 0, _ => 0
  | n + 1, f => su n f + f n
theorem su_range (f : Nat → Int) : ∀ n, ((List.range n).map f).sum = su n f
  | 0 => rfl
  | n + 1 => by
    rw [List.range_succ, List.map_append, List.sum_append, su_range f n]
    show su n f + (f n + 0) = _
    rw [Int.add_zero]; rfl
def nextL (ns fs : List Int) : Int := -(if fs.length < ns.length then fs.length * ns.getD fs.length 0 else 0) - su (min fs.length ns.length - 1) fun i => ns.getD (1 + i) 0 * fs.getD (fs.length - (1 + i)) 0
def lenL (ns : List Int) : Nat → List Int → List Int
  | 0, fs => fs
  | m + 1, fs => lenL ns m (fs ++ [nextL ns fs])
theorem lenL_mem {ns : List Int} {x : Int} : ∀ (m : Nat) (fs : List Int), x ∈ fs → x ∈ lenL ns m fs
  | 0, _, h => h
  | m + 1, fs, h => lenL_mem m _ (List.mem_append_left _ h)
theorem lenL_length {ns : List Int} : ∀ (m : Nat) (fs : List Int), (lenL ns m fs).length = fs.length + m
  | 0, _ => rfl
  | m + 1, fs => by
    show (lenL ns m (fs ++ [nextL ns fs])).length = _
    rw [lenL_length m, List.length_append, List.length_singleton]; omega
def gNx (ns fs : List Int) : D → D
  | .int j => .int (ns.getD j.toNat 0 * fs.getD (fs.length - j.toNat) 0)
  | _ => .non
theorem gNx_ints (ns fs : List Int) : ∀ (n : Nat) , ints? ((rng 1 n).map (gNx ns fs)) = some ((List.range n).map fun i => ns.getD (1 + i) 0 * fs.getD (fs.length - (1 + i)) 0) := fun n => by
  have e : (rng 1 n).map (gNx ns fs) = ((List.range n).map fun i => ns.getD (1 + i) 0 * fs.getD (fs.length - (1 + i)) 0).map D.int := by
    unfold rng
    rw [List.map_map, List.map_map]
    refine List.map_congr_left fun i _ => ?_
    show D.int (ns.getD ((1 : Int) + (i : Int)).toNat 0 * fs.getD (fs.length - ((1 : Int) + (i : Int)).toNat) 0) = _
    rw [show ((1 : Int) + (i : Int)).toNat = 1 + i from by omega]; rfl
  rw [e, ints?_map]
theorem getD_mem {ns : List Int} {i : Nat} (h : i < ns.length) : ns.getD i 0 ∈ ns := by
  rw [List.getD_eq_getElem?_getD, List.getElem?_eq_getElem h]
  exact List.getElem_mem _
theorem mem_rng {lo : Int} {n : Nat} {d : D} (h : d ∈ rng lo n) : ∃ i : Nat, i < n ∧ d = .int (lo + i) := by
  obtain ⟨i, hi, rfl⟩ := List.mem_map.mp h
  exact ⟨i, List.mem_range.mp hi, rfl⟩
section
variable {S : Sto}
theorem c_next_length (hS : Wf S) {ns fs : List Int} (hn : ns.length ≤ 100) (hf : fs.length ≤ 200) (hf1 : 1 ≤ fs.length) (hn1 : 1 ≤ ns.length) (hm : ∀ a ∈ ns, ∀ b ∈ fs, mulOk a b = true) : m_next_length [.lst (iL ns), .loc S.length] (S ++ [.lst (iL fs)]) = .ok (.int (nextL ns fs)) (S ++ [.lst (iL fs)]) := by
  have hW := wf_add hS fs
  have hq : SqD (.lst (iL ns)) ns := .inl rfl
  have hl : kLen (S ++ [O.lst (iL fs)]) [.loc S.length] = some (.int fs.length) := kLen_loc last_get
  have t0 : eIf (bOf (eOp kLt (eVar 2) (eB kLen (qCons (eVar 0) qNil)))) (eOp kMul (eVar 2) (eOp kIx (eVar 0) (eVar 2))) (eC (.int 0)) [some (.lst (iL ns)), some (.loc S.length), some (.int fs.length), none, none] (S ++ [.lst (iL fs)]) = .ok (.int (if fs.length < ns.length then fs.length * ns.getD fs.length 0 else 0)) (S ++ [.lst (iL fs)]) := by
    by_cases h : fs.length < ns.length
    · rw [if_pos h]
      refine v_if1 (v_bOf (v_op v_var (v_B (v_cons v_var v_nil) (hq.len _)) ?_)) (v_op v_var (v_op v_var v_var ((hq.ix _ _).trans (atI_int rfl h))) (kMul_int _ (mulOk_l ⟨by omega, by omega⟩)))
      show some (D.bl (decide ((fs.length : Int) < (ns.length : Int)))) = _
      rw [decide_eq_true (by omega)]
    · rw [if_neg h]
      refine v_if0 (v_bOf (v_op v_var (v_B (v_cons v_var v_nil) (hq.len _)) ?_)) v_c
      show some (D.bl (decide ((fs.length : Int) < (ns.length : Int)))) = _
      rw [decide_eq_false (by omega)]
  have emin : (if (ns.length : Int) < (fs.length : Int) then (ns.length : Int) else (fs.length : Int)) = ((min fs.length ns.length : Nat) : Int) := by
    split <;> omega
  refine run_rt ((w_seq (w_set (v_B (v_cons v_var v_nil) hl))).trans ((w_seq (w_set t0)).trans (w_ret (v_op (v_un v_var rfl) (v_B (v_cons (v_frz (v_lc (ds := rng 1 (min fs.length ns.length - 1)) (src := [])
    (v_iB (v_cons v_c (v_cons (v_B (v_cons v_var (v_cons (v_B (v_cons v_var v_nil) (hq.len _)) v_nil)) (d := .int (min fs.length ns.length : Nat)) ?_) v_nil)) (kRange2_nat _ 1 _ (by omega) (by omega))) (lcL_map (gNx ns fs) srcs0 (rng 1 (min fs.length ns.length - 1)) [] (fun y hy => ?_) ?_))) v_nil) (kSum_ints (by rw [List.nil_append]; exact gNx_ints ns fs _))) rfl)))) ?_
  · show some (D.int (if (ns.length : Int) < (fs.length : Int) then (ns.length : Int) else (fs.length : Int))) = _
    rw [emin]
  · obtain ⟨i, hi, rfl⟩ := mem_rng hy
    have e1 : ((1 : Int) + (i : Int)).toNat = 1 + i := by omega
    refine ⟨_, rfl, v_op (v_op v_var v_var ((hq.ix _ _).trans (atI_int (j := 1 + i) (by omega) (by omega)))) (v_op v_var (v_op v_var v_var rfl) ((kIx_loc last_get).trans (atI_int (j := fs.length - (1 + i)) (by omega) (by omega)))) ((kMul_int _ (hm _ (getD_mem (by omega)) _ (getD_mem (by omega)))).trans ?_)⟩
    show _ = some (D.int (ns.getD ((1 : Int) + (i : Int)).toNat 0 * fs.getD (fs.length - ((1 : Int) + (i : Int)).toNat) 0))
    rw [e1]
  · have : (rng 1 (min fs.length ns.length - 1)).length = min fs.length ns.length - 1 := by simp [rng]
    rw [this]
    exact sz (by simp only [List.length_nil]; omega)
  · rw [su_range]
    exact endInt hW
theorem lo_loop (hS : Wf S) {p : D} {ns : List Int} {many : Nat} (hn : ns.length ≤ 100) (hn1 : 1 ≤ ns.length) (hM : many ≤ 100) : ∀ (m n : Nat) (fs : List Int), fs.length + m = many → m < n → 1 ≤ fs.length → (∀ a ∈ ns, ∀ b ∈ lenL ns m fs, mulOk a b = true) →
    whileL (bOf (eOp kLt (eB kLen (qCons (eVar 3) qNil)) (eVar 1))) (bExp (eMt kAppend (eVar 3) (qCons (eCall 2 m_next_length (qCons (eVar 2) (qCons (eVar 3) qNil))) qNil))) n [some p, some (.int many), some (.lst (iL ns)), some (.loc S.length)] (S ++ [.lst (iL fs)]) =
      .nx [some p, some (.int many), some (.lst (iL ns)), some (.loc S.length)] (S ++ [.lst (iL (lenL ns m fs))])
  | m, 0, fs, _, h, _, _ => absurd h (Nat.not_lt_zero _)
  | 0, n + 1, fs, hm, _, h1, _ => by
    refine w_while0 (v_bOf (v_op (v_B (v_cons v_var v_nil) (kLen_loc last_get)) v_var ?_))
    show some (D.bl (decide ((fs.length : Int) < (many : Int)))) = _
    rw [decide_eq_false (by omega)]
  | m + 1, n + 1, fs, hm, hn2, h1, hk => by
    have e1 : lenL ns (m + 1) fs = lenL ns m (fs ++ [nextL ns fs]) := rfl
    rw [e1] at hk ⊢
    have nx := c_next_length hS (ns := ns) (fs := fs) hn (by omega) h1 hn1 fun a ha b hb => hk a ha b (lenL_mem m _ (List.mem_append_left _ hb))
    have ap := kAppend_loc (S := S) (xs := iL fs) (y := .int (nextL ns fs)) (by rw [List.length_map, sizeLine_eq]; omega)
    have el : iL (fs ++ [nextL ns fs]) = iL fs ++ [.int (nextL ns fs)] := List.map_append
    refine (w_while1 (v_bOf (v_op (v_B (v_cons v_var v_nil) (kLen_loc last_get)) v_var ?_)) (w_exp (v_mt v_var (lstOf_loc last_get) (v_cons (v_call (v_cons v_var (v_cons v_var v_nil)) nx) v_nil) ap))).trans ?_
    · show some (D.bl (decide ((fs.length : Int) < (many : Int)))) = _
      rw [decide_eq_true (by omega)]
    · rw [← el]
      exact lo_loop hS hn hn1 hM m n (fs ++ [nextL ns fs]) (by rw [List.length_append, List.length_singleton]; omega) (by omega) (by rw [List.length_append]; omega) hk
/-- the numbers told by a polynomial -/
def trL (p : List Int) (many : Nat) : List Int := lenL p.reverse (many - 1) [(p.length : Int) - 1]
theorem trL_length {p : List Int} {many : Nat} (h : 1 ≤ many) : (trL p many).length = many := by
  unfold trL
  rw [lenL_length, List.length_singleton]; omega
theorem c_lengths_of (hS : Wf S) {p : List Int} {many : Nat} (hp : p.length ≤ 100) (hp1 : 1 ≤ p.length) (hM : many ≤ 100) (h1 : 1 ≤ many) (hm : ∀ a ∈ p, ∀ b ∈ trL p many, mulOk a b = true) : m_lengths_of [.lst (iL p), .int many] S = .ok (.lst (iL (trL p many))) S := by
  have hq : SqD (.lst (iL p)) p := .inl rfl
  have hr : kRevL S (.lst (iL p)) = some (iL p.reverse) := by
    show some (List.map D.int p).reverse = some (List.map D.int p.reverse)
    rw [List.map_reverse]
  refine run_rt ((w_seq (w_par (v_cons (v_frz (v_fUn v_var hr)) (v_cons (v_loc (v_lst (v_cons (v_op (v_B (v_cons v_var v_nil) (hq.len _)) v_c rfl) v_nil))) v_nil)))).trans ((w_seq (lo_loop hS (ns := p.reverse) (by rw [List.length_reverse]; exact hp) (by rw [List.length_reverse]; exact hp1) hM (many - 1) 120 [(p.length : Int) - 1] (by rw [List.length_singleton]; omega) (by omega) (Nat.le_refl _) fun a ha b hb => hm a (List.mem_reverse.mp ha) b hb)).trans (w_ret (v_frz (v_fSl v_var v_no (v_end v_var) (es := iL (trL p many)) ?_))))) (clo_app (d := .lst (iL (trL p many))) (fun _ z => nomatch z) (bnds_ints _ _) hS)
  show (lstOf (S ++ [O.lst (iL (trL p many))]) (.loc S.length)).map (fun xs => cutD xs none (some (many : Int))) = _
  rw [lstOf_loc last_get]
  show some (((iL (trL p many)).drop 0).take (HT.sIx (iL (trL p many)).length (iL (trL p many)).length (some (many : Int)) - 0)) = _
  have e : HT.sIx (iL (trL p many)).length (iL (trL p many)).length (some (many : Int)) - 0 = (iL (trL p many)).length := by
    have el : (iL (trL p many)).length = many := by rw [List.length_map, trL_length h1]
    rw [el]
    show (if (many : Int) < 0 then ((many : Int) + (many : Int)).toNat else min (many : Int).toNat many) - 0 = many
    rw [if_neg (by omega)]; omega
  rw [e, List.drop_zero, List.take_length]
theorem c_traces_from (hS : Wf S) {d : D} {p : List Int} (h : SqD d p) {many : Nat} (h2 : 2 ≤ p.length) (h25 : p.length ≤ 25) (hlast : p.getD (p.length - 1) 0 = 1) (hM : many ≤ 100) (h1 : 1 ≤ many) (hm : ∀ a ∈ p, ∀ b ∈ trL p many, mulOk a b = true) :
    m_traces_from [d, .int many] S = .ok (.tup (iL (trL p many))) S := by
  have hL : SqD (.lst (iL (trL p many))) (trL p many) := .inl rfl
  refine run_rt ((w_seq (w_exp (v_call (v_cons v_var v_nil) (c_need_polynomial hS h h2 h25 hlast)))).trans ((w_seq (w_exp (v_call (v_cons v_var (v_cons v_c (v_cons v_c (v_cons v_c v_nil)))) (c_need_number hS _ many (by omega))))).trans (w_ret (v_B (d := .tup (iL (trL p many))) (v_cons (v_call (v_cons (v_frz (v_fB (v_cons v_var v_nil) (es := iL p) (h.sq S))) (v_cons v_var v_nil)) (c_lengths_of hS (by omega) (by omega) hM h1 hm)) v_nil) rfl)))) (clo_same (d := .tup (iL (trL p many))) (fun _ z => nomatch z) (bnds_ints _ _) hS)
def misfit : Xc := ⟨"Misfit", [("part", .str "traces")]⟩
theorem c_polynomial_from (hS : Wf S) {d : D} {ts : List Int} (h : SqD d ts) (h2 : 2 ≤ ts.length) (h25 : ts.length ≤ 25) (h0 : ts.getD 0 0 = (ts.length : Int) - 1) (hsm : ∀ x ∈ ts, small x) :
    m_polynomial_from [d] S = (match newR ts with
      | some p => .ok (.tup (iL p)) S
      | none => .err misfit S) := by
  have t1 : bIf (bOr (bNot (bOf (eCall 1 m_are_some (qCons (eVar 0) qNil)))) (bOf (eOp kNe (eOp kIx (eVar 0) (eC (.int 0))) (eOp kSub (eB kLen (qCons (eVar 0) qNil)) (eC (.int 1)))))) (bRaise "BadNumber" "part" (qCons (eC (.str "traces")) qNil)) bNil (envOf 2 [d]) S = .nx [some d, none] S := by
    refine (w_if0 (v_bOr0 (v_bNot (v_bOf (v_call (v_cons v_var v_nil) (c_are_some hS h h2 h25)))) (v_bOf (v_op (a := .int (ts.getD 0 0)) (b := .int ((ts.length : Int) - 1)) (v_op v_var v_c ((h.ix S 0).trans (atI_int (j := 0) rfl (by omega)))) (v_op (v_B (v_cons v_var v_nil) (h.len S)) v_c rfl) ((kNe_int _ _ _).trans ?_))))).trans rfl
    rw [decide_eq_true h0]; rfl
  have t2 := c_newton hS h hsm (by omega) h25
  cases e : newR ts with
  | none =>
    rw [e] at t2
    exact run_er ((w_seq t1).trans ((w_seq (w_set (v_call (v_cons v_var v_nil) t2))).trans (w_seqE ((w_if1 (v_bOf (v_op v_var v_c rfl))).trans (w_raise (v_cons v_c v_nil)))))) rfl hS
  | some p =>
    rw [e] at t2
    exact run_rt ((w_seq t1).trans ((w_seq (w_set (v_call (v_cons v_var v_nil) t2))).trans ((w_seq ((w_if0 (v_bOf (v_op v_var v_c rfl))).trans rfl)).trans (w_ret v_var)))) (clo_same (d := .tup (iL p)) (fun _ z => nomatch z) (bnds_ints _ _) hS)
end
end M2

/-! P5: the jar and its draws -/
namespace M2
open PySem PySem.Spec PyProof.Rows L2

def jarO (cells : List Int) (t r : Int) : O := .lst [.lst (iL cells), .int t, .int r]
abbrev jarS (cells : List Int) (t r : Int) : Sto := [jarO cells t r]
theorem wf_jar (cells : List Int) (t r : Int) : Wf (jarS cells t r) := by
  show (((bnds 1 (iL cells)) && true) && true) = true
  rw [bnds_ints]; rfl
theorem kNe_lst0 (S : Sto) (cells : List Int) : kNe S (.lst (iL cells)) (.lst []) = some (.bl (!decide (cells = []))) := by
  have e : ∀ c : List Int, dpyS S (.lst (iL c)) = some (.list (c.map PyData.int)) := fun c => by
    show (dpys (iL c)).map PyData.list = _
    rw [dpys_iL]; rfl
  unfold kNe kEqB
  rw [e cells, show dpyS S (.lst []) = some (.list (([] : List Int).map PyData.int)) from e []]
  show (if SeqAt.shaped (.list (cells.map PyData.int)) = true ∧ SeqAt.shaped (.list (([] : List Int).map PyData.int)) = true then some (PyData.eqv (.list (cells.map PyData.int)) (.list (([] : List Int).map PyData.int))) else none).map _ = _
  rw [if_pos ⟨shaped_lst cells, shaped_lst []⟩]
  simp only [PyData.eqv, eqv_iL]
  rfl
theorem fmod_bd (a : Int) {m : Int} (h : 0 < m) : 0 ≤ a.fmod m ∧ a.fmod m < m := ⟨Int.fmod_nonneg_of_pos a h, Int.fmod_lt_of_pos a h⟩
theorem kMod_pos (S : Sto) (a : Int) {m : Int} (h : 0 < m) : kMod S (.int a) (.int m) = some (.int (a.fmod m)) := by
  show (if m ≠ 0 then some (a.fmod m) else none).map D.int = _
  rw [if_pos (by omega)]; rfl
theorem kFdiv_pos (S : Sto) (a : Int) {m : Int} (h : 0 < m) (h2 : m ≤ 100000) : kFdiv S (.int a) (.int m) = some (.int (a.fdiv m)) := by
  show (if m ≠ 0 ∧ m.natAbs < 1073741824 then some (a.fdiv m) else none).map D.int = _
  rw [if_pos ⟨by omega, by omega⟩]; rfl
theorem kPow_ok (S : Sto) {a : Int} {n : Nat} (h0 : 0 ≤ a) (h : a < 2 ^ 64) (hn : n ≤ 1000) : kPow S (.int a) (.int n) = some (.int (a ^ n)) := by
  show (if 0 ≤ (n : Int) ∧ (n : Int) ≤ 1000000 ∧ a.natAbs < 2 ^ 64 then some (a ^ (n : Int).toNat) else none).map D.int = _
  rw [if_pos ⟨by omega, by omega, by omega⟩, Int.toNat_natCast]; rfl
section
variable {cells : List Int} {t r m : Int}
theorem endJar {v t' r' : Int} : clo (jarS cells t r).length (.int v) (jarS cells t' r') = .ok (.int v) (jarS cells t' r') := endInt (wf_jar cells t' r')
/-- the last three steps of a great cell -/
theorem lot_rest {x0 x3 x4 x5 : Option D} (z : Int) (hm : 1 ≤ m) (hm2 : m ≤ 1000) : bSeq (bSetIx (eVar 0) (eC (.int 2)) (eOp kFdiv (eB kInt (qCons (eVar 2) qNil)) (eVar 1))) (bRet (eOp kMod (eB kInt (qCons (eVar 2) qNil)) (eVar 1))) [some (.loc 0), some (.int m), some (.int z), x3, x4, x5] (jarS cells t r) = .rt (.int (z.fmod m)) (jarS cells t (z.fdiv m)) :=
  (w_seq (w_setIx (v_op (v_B (v_cons v_var v_nil) rfl) v_var (kFdiv_pos _ z (by omega) (by omega))) v_var v_c rfl)).trans (w_ret (v_op (v_B (v_cons v_var v_nil) rfl) v_var (kMod_pos _ z (by omega))))
theorem c_lot (ht : 0 ≤ t) (hT : t ≤ 100000) (hm : 1 ≤ m) (hm2 : m ≤ 1000) : ∃ v t' r', m__law_lot [.loc 0, .int m] (jarS cells t r) = .ok (.int v) (jarS cells t' r') ∧ 0 ≤ v ∧ v < m ∧ 0 ≤ t' ∧ t' ≤ t + 1 := by
  have hm0 : 0 < m := by omega
  by_cases hr : 0 < r
  · refine ⟨r.fmod m, t, r.fdiv m, ?_, (fmod_bd r hm0).1, (fmod_bd r hm0).2, ht, by omega⟩
    refine run_rt (w_seqR ((w_if1 (v_bOf (v_op (a := .int r) (v_op v_var v_c rfl) v_c (?_ : some (D.bl (decide (0 < r))) = some (.bl true))))).trans ((w_seq (w_set (v_op (d := .int r) v_var v_c rfl))).trans (lot_rest (x0 := none) r hm hm2)))) endJar
    rw [decide_eq_true hr]
  · -- a new cell
    have hc : ∃ c : Int, bIf (bOf (eOp kNe (eOp kIx (eVar 0) (eC (.int 0))) (eFrz (fLst qNil)))) (bSet 4 (eOp kIx (eOp kIx (eVar 0) (eC (.int 0))) (eOp kMod (eB kInt (qCons (eVar 3) qNil)) (eB kLen (qCons (eOp kIx (eVar 0) (eC (.int 0))) qNil))))) bNil [some (.loc 0), some (.int m), none, some (.int t), some (.int (61007 * t + 4007)), none] (jarS cells (t + 1) r) = .nx [some (.loc 0), some (.int m), none, some (.int t), some (.int c), none] (jarS cells (t + 1) r) := by
      have hq : SqD (.lst (iL cells)) cells := .inl rfl
      by_cases h : cells = []
      · refine ⟨61007 * t + 4007, (w_if0 (v_bOf (v_op (a := .lst (iL cells)) (v_op v_var v_c rfl) (v_frz (v_lst v_nil)) ((kNe_lst0 _ _).trans ?_)))).trans rfl⟩
        rw [decide_eq_true h]; rfl
      · have hl : 0 < (cells.length : Int) := by have := List.length_pos_iff.mpr h; omega
        have b := fmod_bd t hl
        refine ⟨cells.getD (t.fmod cells.length).toNat 0, (w_if1 (v_bOf (v_op (a := .lst (iL cells)) (v_op v_var v_c rfl) (v_frz (v_lst v_nil)) ((kNe_lst0 _ _).trans ?_)))).trans (w_set (v_op (a := .lst (iL cells)) (v_op v_var v_c rfl) (v_op (v_B (v_cons v_var v_nil) rfl) (v_B (v_cons (d := .lst (iL cells)) (v_op v_var v_c rfl) v_nil) (hq.len _)) (kMod_pos _ t hl)) ((hq.ix _ _).trans (atI_int (by omega) (by omega)))))⟩
        rw [decide_eq_false h]; rfl
    obtain ⟨c, hc⟩ := hc
    have hq : SqD (.lst (iL cells)) cells := .inl rfl
    have pre : ∀ q : Blk, (bSeq (bIf (bOf (eOp kGt (eOp kIx (eVar 0) (eC (.int 2))) (eC (.int 0)))) (bSeq (bSet 2 (eOp kIx (eVar 0) (eC (.int 2)))) (bSeq (bSetIx (eVar 0) (eC (.int 2)) (eOp kFdiv (eB kInt (qCons (eVar 2) qNil)) (eVar 1))) (bRet (eOp kMod (eB kInt (qCons (eVar 2) qNil)) (eVar 1))))) bNil) (bSeq (bSet 3 (eOp kIx (eVar 0) (eC (.int 1)))) (bSeq (bSetIx (eVar 0) (eC (.int 1)) (eOp kAdd (eVar 3) (eC (.int 1)))) (bSeq (bSet 4 (eOp kAdd (eOp kMul (eC (.int 61007)) (eVar 3)) (eC (.int 4007)))) (bSeq (bIf (bOf (eOp kNe (eOp kIx (eVar 0) (eC (.int 0))) (eFrz (fLst qNil)))) (bSet 4 (eOp kIx (eOp kIx (eVar 0) (eC (.int 0))) (eOp kMod (eB kInt (qCons (eVar 3) qNil)) (eB kLen (qCons (eOp kIx (eVar 0) (eC (.int 0))) qNil))))) bNil) q))))) (envOf 6 [.loc 0, .int m]) (jarS cells t r) = q [some (.loc 0), some (.int m), none, some (.int t), some (.int c), none] (jarS cells (t + 1) r) := fun q => by
      refine (w_seq ((w_if0 (v_bOf (v_op (a := .int r) (v_op v_var v_c rfl) v_c (?_ : some (D.bl (decide (0 < r))) = some (.bl false))))).trans rfl)).trans ((w_seq (w_set (v_op (d := .int t) v_var v_c rfl))).trans ((w_seq (w_setIx (v_op (d := .int (t + 1)) v_var v_c rfl) v_var v_c rfl)).trans ((w_seq (w_set (v_op (v_op v_c v_var (kMul_int _ (mulOk_l ⟨by decide, by decide⟩))) v_c rfl))).trans (w_seq hc))))
      rw [decide_eq_false hr]
    have habs : ∀ S, kAbs S [.int c] = some (.int (if c < 0 then -c else c)) := fun _ => rfl
    by_cases hg : t < (cells.length : Int) ∧ (10 : Int) ^ 18 ≤ (if c < 0 then -c else c)
    · -- a great one
      refine ⟨(2 * ((if c < 0 then -c else c) - 10 ^ 18) + (if decide (c < 0) = true then 1 else 0) : Int).fmod m, t + 1, (2 * ((if c < 0 then -c else c) - 10 ^ 18) + (if decide (c < 0) = true then 1 else 0) : Int).fdiv m, ?_, (fmod_bd _ hm0).1, (fmod_bd _ hm0).2, by omega, by omega⟩
      refine run_rt ((pre _).trans (w_seqR ((w_if1 (v_bAnd1 (v_bOf (v_op v_var (v_B (v_cons (d := .lst (iL cells)) (v_op v_var v_c rfl) v_nil) (hq.len _)) (?_ : some (D.bl (decide (t < (cells.length : Int)))) = some (.bl true)))) (v_bOf (v_op (v_B (v_cons v_var v_nil) (habs _)) (b := .int (10 ^ 18)) (v_op v_c v_c (kPow_ok _ (n := 18) (by decide) (by decide) (by decide))) (?_ : some (D.bl (decide ((10 : Int) ^ 18 ≤ (if c < 0 then -c else c)))) = some (.bl true)))))).trans ((w_seq (w_set (v_op (v_op v_c (v_op (v_B (v_cons v_var v_nil) (habs _)) (b := .int (10 ^ 18)) (v_op v_c v_c (kPow_ok _ (n := 18) (by decide) (by decide) (by decide))) rfl) (kMul_int _ (mulOk_l ⟨by decide, by decide⟩))) (v_B (v_cons (d := .bl (decide (c < 0))) (v_op v_var v_c rfl) v_nil) rfl) rfl))).trans (lot_rest (x0 := none) _ hm hm2))))) endJar
      · rw [decide_eq_true hg.1]
      · rw [decide_eq_true hg.2]
    · -- mixed
      have p1 := fmod_bd c (show (0 : Int) < 2147483563 by decide)
      have p2 := fmod_bd ((c.fmod 2147483563 + 71023 * t + 4007) ^ 5) (show (0 : Int) < 2147483549 by decide)
      generalize hx : ((c.fmod 2147483563 + 71023 * t + 4007) ^ 5).fmod 2147483549 = x at p2
      have q1 : 0 ≤ x * (2 * t + 4007) := Int.mul_nonneg p2.1 (by omega)
      have q2 : x * (2 * t + 4007) ≤ 2147483549 * 204007 := Int.mul_le_mul (by omega) (by omega) (by omega) (by decide)
      have q3 : 0 ≤ 61007 * t * t := Int.mul_nonneg (by omega) ht
      have q4 : 61007 * t * t ≤ 6100700000 * 100000 := Int.mul_le_mul (by omega) hT ht (by decide)
      generalize hy : ((x * (2 * t + 4007) + 61007 * t * t + 71023) ^ 3).fmod 2147483579 = y
      have hcond : bAnd (bOf (eOp kLt (eVar 3) (eB kLen (qCons (eOp kIx (eVar 0) (eC (.int 0))) qNil)))) (bOf (eOp kGe (eB kAbs (qCons (eVar 4) qNil)) (eOp kPow (eC (.int 10)) (eC (.int 18))))) [some (.loc 0), some (.int m), none, some (.int t), some (.int c), none] (jarS cells (t + 1) r) = .ok false (jarS cells (t + 1) r) := by
        by_cases h1 : t < (cells.length : Int)
        · have h2 : ¬ (10 : Int) ^ 18 ≤ (if c < 0 then -c else c) := fun z => hg ⟨h1, z⟩
          refine v_bAnd1 (v_bOf (v_op (a := .int t) (b := .int cells.length) v_var (v_B (v_cons (d := .lst (iL cells)) (v_op v_var v_c rfl) v_nil) (hq.len _)) (?_ : some (D.bl (decide (t < (cells.length : Int)))) = some (.bl true)))) (v_bOf (v_op (a := .int (if c < 0 then -c else c)) (v_B (v_cons v_var v_nil) (habs _)) (b := .int (10 ^ 18)) (v_op v_c v_c (kPow_ok _ (n := 18) (by decide) (by decide) (by decide))) (?_ : some (D.bl (decide ((10 : Int) ^ 18 ≤ (if c < 0 then -c else c)))) = some (.bl false))))
          · rw [decide_eq_true h1]
          · rw [decide_eq_false h2]
        · refine v_bAnd0 (v_bOf (v_op (a := .int t) (b := .int cells.length) v_var (v_B (v_cons (d := .lst (iL cells)) (v_op v_var v_c rfl) v_nil) (hq.len _)) (?_ : some (D.bl (decide (t < (cells.length : Int)))) = some (.bl false))))
          rw [decide_eq_false h1]
      refine ⟨(y.fdiv 32).fmod m, t + 1, r, ?_, (fmod_bd _ hm0).1, (fmod_bd _ hm0).2, by omega, by omega⟩
      have mk : ∀ {a b : Int} (S : Sto), small a → kMul S (.int a) (.int b) = some (.int (a * b)) := fun S h => kMul_int S (mulOk_l h)
      refine run_rt ((pre _).trans ((w_seq ((w_if0 hcond).trans rfl)).trans ((w_seq (w_set (d := .int x) (v_op (v_B (v_cons (v_op (v_op (v_op (v_op (v_B (v_cons v_var v_nil) rfl) v_c (kMod_pos _ c (by decide))) (v_op v_c v_var (mk _ ⟨by decide, by decide⟩)) rfl) v_c rfl) v_c (kPow_ok _ (n := 5) (by omega) (by omega) (by decide))) v_nil) rfl) v_c ((kMod_pos _ _ (by decide)).trans (by rw [hx])))))
        |>.trans ((w_seq (w_set (d := .int y) (v_op (v_B (v_cons (v_op (v_op (v_op (v_op v_var (v_op (v_op v_c v_var (mk _ ⟨by decide, by decide⟩)) v_c rfl) (mk _ ⟨by omega, by omega⟩)) (v_op (v_op v_c v_var (mk _ ⟨by decide, by decide⟩)) v_var (mk _ ⟨by omega, by omega⟩)) rfl) v_c rfl) v_c (kPow_ok _ (n := 3) (by omega) (by omega) (by decide))) v_nil) rfl) v_c ((kMod_pos _ _ (by decide)).trans (by rw [hy])))))
        |>.trans (w_ret (v_op (v_B (v_cons (v_op v_var v_c (kFdiv_pos _ y (by decide) (by decide))) v_nil) rfl) v_var (kMod_pos _ _ hm0))))))) endJar
end
end M2

/-! P6: the law's own small defs -/
namespace M2
open PySem PySem.Spec PyProof.Rows L2

theorem c_jar (ns : List Int) : ∃ cells, m__law_jar [.wls ns] [] = .ok (.loc 0) (jarS cells 0 0) := by
  obtain ⟨cells, hc⟩ : ∃ cells, cutD (ns.map D.int) none (some 58) = iL cells := by
    refine ⟨(ns.drop (HT.sIx (ns.map D.int).length 0 none)).take (HT.sIx (ns.map D.int).length (ns.map D.int).length (some 58) - HT.sIx (ns.map D.int).length 0 none), ?_⟩
    unfold cutD
    rw [← List.map_drop, ← List.map_take]
  refine ⟨cells, ?_⟩
  have hlen : cells.length ≤ 58 := by
    have e := congrArg List.length hc
    have h58 : HT.sIx ns.length ns.length (some 58) = min 58 ns.length := HT.sIx_nat ns.length ns.length 58
    unfold cutD at e
    simp only [List.length_take, List.length_drop, List.length_map] at e
    omega
  have it : iSeq (eFrz (fSl (eVar 0) none (some (eC (.int 58))))) (envOf 2 [.wls ns]) [] = .ok (iL cells, []) [] := v_iSeq (d := .lst (iL cells)) (v_frz (v_fSl (a := .wls ns) (l := none) (r := some 58) (v_var (i := 0)) v_no (v_end v_c) (congrArg some hc))) rfl
  have body : bRet (eLoc (fLst (qCons (eFrz (fLc (iSeq (eFrz (fSl (eVar 0) none (some (eC (.int 58)))))) (.nm 1) tYesB (eB kInt (qCons (eVar 1) qNil)) [1])) (qCons (eC (.int 0)) (qCons (eC (.int 0)) qNil))))) (envOf 2 [.wls ns]) [] = .rt (.loc 0) (jarS cells 0 0) := by
    refine w_ret (v_loc (v_lst (v_cons (v_frz (v_lc (ds := iL cells) (src := []) it ((lcL_map id srcs0 (iL cells) [] (fun y hy => ?_) ?_).trans (by rw [List.map_id, List.nil_append])))) (v_cons v_c (v_cons v_c v_nil)))))
    · obtain ⟨i, _, rfl⟩ := List.mem_map.mp hy
      exact ⟨_, rfl, v_B (v_cons v_var v_nil) rfl⟩
    · rw [List.length_map]; exact sz (by simp only [List.length_nil]; omega)
  unfold m__law_jar runDef
  rw [body]
  exact (if_pos (wf_jar cells 0 0)).trans rfl
section
variable {cells : List Int} {t r : Int}
theorem c_take {ns : List Int} (ht : 0 ≤ t) (hT : t ≤ 100000) (h1 : 1 ≤ ns.length) (h2 : ns.length ≤ 1000) : ∃ x t' r', m__law_take [.loc 0, .lst (iL ns)] (jarS cells t r) = .ok (.int x) (jarS cells t' r') ∧ x ∈ ns ∧ 0 ≤ t' ∧ t' ≤ t + 1 := by
  obtain ⟨v, t', r', e, v0, v1, t0, t1⟩ := c_lot (cells := cells) (t := t) (r := r) (m := ns.length) ht hT (by omega) (by omega)
  have hq : SqD (.lst (iL ns)) ns := .inl rfl
  refine ⟨ns.getD v.toNat 0, t', r', run_rt (w_ret (v_op (b := .int v) v_var (v_call (v_cons v_var (v_cons (v_B (v_cons v_var v_nil) (hq.len _)) v_nil)) e) ((hq.ix _ _).trans (atI_int (by omega) (by omega))))) endJar, getD_mem (by omega), t0, t1⟩
/-- draws of a comprehension -/
theorem c_draws {m : Int} {off : Int} (hm : 1 ≤ m) (hm2 : m ≤ 1000) {ρ : Env} {i j : Nat} (hj : (ρ.set j (some .non)).length = ρ.length) (h0 : ∀ y, (ρ.set j y)[i]? = some (some (.loc 0))) : ∀ (n : Nat) (t : Int), 0 ≤ t → t + n ≤ 100000 → ∀ (r : Int) (acc : List Int), acc.length + n ≤ 1000 → ∀ (lo : Int),
    ∃ (vs : List Int) (t' r' : Int), lcL [] (.nm j) tYesB (eOp kSub (eCall 2 m__law_lot (qCons (eVar i) (qCons (eC (.int m)) qNil))) (eC (.int off))) ρ (rng lo n) (iL acc) (jarS cells t r) = .ok (iL (acc ++ vs)) (jarS cells t' r') ∧ vs.length = n ∧ (∀ v ∈ vs, -off ≤ v ∧ v < m - off) ∧ 0 ≤ t' ∧ t' ≤ t + n
  | 0, t, ht, _, r, acc, _, lo => ⟨[], t, r, by rw [List.append_nil]; rfl, rfl, fun _ z => (nomatch z), ht, by omega⟩
  | n + 1, t, ht, hT, r, acc, hl, lo => by
    obtain ⟨v, t1, r1, e, v0, v1, h1, h2⟩ := c_lot (cells := cells) (t := t) (r := r) (m := m) ht (by omega) hm hm2
    obtain ⟨vs, t', r', e2, l2, b2, h3, h4⟩ := c_draws hm hm2 hj h0 n t1 h1 (by omega) r1 (acc ++ [v - off]) (by rw [List.length_append, List.length_singleton]; omega) (lo + 1)
    refine ⟨(v - off) :: vs, t', r', ?_, by rw [List.length_cons, l2], fun w hw => ?_, h3, by omega⟩
    · rw [rng_succ]
      have ee : eOp kSub (eCall 2 m__law_lot (qCons (eVar i) (qCons (eC (.int m)) qNil))) (eC (.int off)) (ρ.set j (some (.int lo))) (jarS cells t r) = .ok (.int (v - off)) (jarS cells t1 r1) :=
        v_op (v_call (v_cons (v_var (h0 _)) (v_cons v_c v_nil)) e) v_c rfl
      have el : iL (acc ++ [v - off]) = iL acc ++ [.int (v - off)] := List.map_append
      show (match tYesB (ρ.set j (some (.int lo))) (jarS cells t r) with
        | .ok true S1 => (match eOp kSub (eCall 2 m__law_lot (qCons (eVar i) (qCons (eC (.int m)) qNil))) (eC (.int off)) (ρ.set j (some (.int lo))) S1 with
          | .ok y S2 => if (iL acc).length < sizeLine then lcL [] (.nm j) tYesB (eOp kSub (eCall 2 m__law_lot (qCons (eVar i) (qCons (eC (.int m)) qNil))) (eC (.int off))) ρ (rng (lo + 1) n) (iL acc ++ [y]) S2 else Res.stuck
          | _ => Res.stuck)
        | .ok false S1 => lcL [] (.nm j) tYesB (eOp kSub (eCall 2 m__law_lot (qCons (eVar i) (qCons (eC (.int m)) qNil))) (eC (.int off))) ρ (rng (lo + 1) n) (iL acc) S1
        | _ => Res.stuck) = _
      show (match eOp kSub (eCall 2 m__law_lot (qCons (eVar i) (qCons (eC (.int m)) qNil))) (eC (.int off)) (ρ.set j (some (.int lo))) (jarS cells t r) with
          | .ok y S2 => if (iL acc).length < sizeLine then lcL [] (.nm j) tYesB (eOp kSub (eCall 2 m__law_lot (qCons (eVar i) (qCons (eC (.int m)) qNil))) (eC (.int off))) ρ (rng (lo + 1) n) (iL acc ++ [y]) S2 else Res.stuck
          | _ => Res.stuck) = _
      rw [ee]
      show (if (iL acc).length < sizeLine then lcL [] (.nm j) tYesB (eOp kSub (eCall 2 m__law_lot (qCons (eVar i) (qCons (eC (.int m)) qNil))) (eC (.int off))) ρ (rng (lo + 1) n) (iL acc ++ [.int (v - off)]) (jarS cells t1 r1) else Res.stuck) = _
      rw [if_pos (by rw [List.length_map, sizeLine_eq]; omega), ← el, e2, List.append_assoc]
      rfl
    · rcases List.mem_cons.mp hw with rfl | hw
      · omega
      · exact b2 w hw
end
/-! ### powers -/
def pwS (ns : List Int) (k : Nat) : Int := (ns.map fun a => a ^ k).sum
def pwL (ns : List Int) (many : Nat) : List Int := (List.range many).map (pwS ns)
def gPw : D → D
  | .tup [.int a, .int b] => .int (a * b)
  | _ => .non
theorem zip_pw (ns : List Int) (k : Nat) : (zipD (iL (ns.map fun a => a ^ k)) (iL ns)).map gPw = iL (ns.map fun a => a ^ (k + 1)) := by
  induction ns with
  | nil => rfl
  | cons n ns ih =>
    show D.int (n ^ k * n) :: _ = D.int (n ^ (k + 1)) :: _
    rw [Int.pow_succ]
    exact congrArg _ ih
theorem mem_zip : ∀ (as bs : List Int) (d : D), d ∈ zipD (iL as) (iL bs) → ∃ a b, d = .tup [.int a, .int b] ∧ a ∈ as ∧ b ∈ bs
  | [], _, _, h => by cases h
  | _ :: _, [], _, h => by cases h
  | a :: as, b :: bs, d, h => by
    rcases List.mem_cons.mp (show d ∈ .tup [.int a, .int b] :: zipD (iL as) (iL bs) from h) with h | h
    · exact ⟨a, b, h, List.mem_cons_self, List.mem_cons_self⟩
    · obtain ⟨x, y, h1, h2, h3⟩ := mem_zip as bs d h
      exact ⟨x, y, h1, List.mem_cons_of_mem _ h2, List.mem_cons_of_mem _ h3⟩
section
variable {S : Sto}
noncomputable abbrev pwB : Blk := bSeq (bExp (eMt kAppend (eVar 2) (qCons (eB kSum (qCons (eVar 3) qNil)) qNil))) (bSetF 3 (fLc (iB kZip (qCons (eVar 3) (qCons (eVar 0) qNil))) (.tp [(.nm 5), (.nm 6)]) tYesB (eOp kMul (eVar 5) (eVar 6)) [5, 6]))
theorem pw_loop {ns : List Int} (hsm : ∀ x ∈ ns, small x) (hl : ns.length ≤ 100) {d : D} : ∀ (m k : Nat) (x4 : Option D) (lo : Int), k + m ≤ 1000 → ∃ y4, forL [] (.nm 4) pwB (rng lo m) [some (.lst (iL ns)), some d, some (.loc S.length), some (.lst (iL (ns.map fun a => a ^ k))), x4, none, none] (S ++ [.lst (iL (pwL ns k))]) =
    .nx [some (.lst (iL ns)), some d, some (.loc S.length), some (.lst (iL (ns.map fun a => a ^ (k + m)))), y4, none, none] (S ++ [.lst (iL (pwL ns (k + m)))])
  | 0, k, x4, lo, _ => ⟨x4, rfl⟩
  | m + 1, k, x4, lo, h => by
    obtain ⟨y4, ih⟩ := pw_loop hsm hl m (k + 1) (some (.int lo)) (lo + 1) (by omega)
    refine ⟨y4, ?_⟩
    have ap := kAppend_loc (S := S) (xs := iL (pwL ns k)) (y := .int (pwS ns k)) (by rw [List.length_map, sizeLine_eq]; unfold pwL; rw [List.length_map, List.length_range]; omega)
    have el : iL (pwL ns (k + 1)) = iL (pwL ns k) ++ [.int (pwS ns k)] := by
      unfold pwL
      rw [List.range_succ, List.map_append]
      exact List.map_append
    have e1 : pwB [some (.lst (iL ns)), some d, some (.loc S.length), some (.lst (iL (ns.map fun a => a ^ k))), some (.int lo), none, none] (S ++ [.lst (iL (pwL ns k))]) = .nx [some (.lst (iL ns)), some d, some (.loc S.length), some (.lst (iL (ns.map fun a => a ^ (k + 1)))), some (.int lo), none, none] (S ++ [.lst (iL (pwL ns (k + 1)))]) := by
      rw [el]
      refine (w_seq (w_exp (v_mt v_var (lstOf_loc last_get) (v_cons (v_B (v_cons v_var v_nil) (kSum_ints (ints?_map _))) v_nil) ap))).trans (w_set (v_frz (v_lc (ds := zipD (iL (ns.map fun a => a ^ k)) (iL ns)) (src := []) (v_iB (v_cons v_var (v_cons v_var v_nil)) rfl) ((lcL_map gPw srcs0 _ [] (fun y hy => ?_) ?_).trans (by rw [zip_pw, List.nil_append])))))
      · obtain ⟨a, b, rfl, _, hb⟩ := mem_zip _ _ y hy
        exact ⟨_, rfl, v_op v_var v_var (kMul_int _ (mulOk_r (hsm b hb)))⟩
      · rw [zipD_length, List.length_map, List.length_map, List.length_map]; exact sz (by simp only [List.length_nil]; omega)
    rw [rng_succ]
    refine (forL_cons srcs0 rfl).trans ?_
    show (match pwB [some (.lst (iL ns)), some d, some (.loc S.length), some (.lst (iL (ns.map fun a => a ^ k))), some (.int lo), none, none] (S ++ [.lst (iL (pwL ns k))]) with
        | .nx ρ2 S2 => forL [] (.nm 4) pwB (rng (lo + 1) m) ρ2 S2
        | .ct ρ2 S2 => forL [] (.nm 4) pwB (rng (lo + 1) m) ρ2 S2
        | .bk ρ2 S2 => Flow.nx ρ2 S2
        | r => r) = _
    rw [e1, show k + (m + 1) = k + 1 + m from by omega]
    exact ih
theorem rep_iL (x : Int) : ∀ n : Nat, List.flatten (List.replicate n [D.int x]) = iL (List.replicate n x)
  | 0 => rfl
  | n + 1 => by
    rw [List.replicate_succ, List.replicate_succ, List.flatten_cons, rep_iL x n]; rfl
theorem kRep_int (S : Sto) (x : Int) (n : Nat) (h : n ≤ 1000) : kRep S (.lst [.int x]) (.int n) = some (iL (List.replicate n x)) := by
  unfold kRep
  rw [show lstOf S (.lst [.int x]) = some [.int x] from rfl]
  dsimp only
  rw [if_pos ⟨by omega, by omega, by rw [sizeLine_eq, Int.toNat_natCast, List.length_singleton]; omega⟩, Int.toNat_natCast, rep_iL]
theorem kRange1_nat (S : Sto) (a : Nat) (h : a ≤ 1000) : kRange1 S [.int a] = some (rng 0 a, []) := by
  unfold kRange1
  dsimp only
  rw [if_pos ⟨by omega, by omega⟩, Int.toNat_natCast]
theorem c_powers (hS : Wf S) {ns : List Int} (hsm : ∀ x ∈ ns, small x) (hl : ns.length ≤ 100) {many : Nat} (hM : many ≤ 1000) : m__law_powers [.lst (iL ns), .int many] S = .ok (.tup (iL (pwL ns many))) S := by
  obtain ⟨y4, hlp⟩ := pw_loop (S := S) hsm hl (d := .int many) many 0 none 0 (by omega)
  have hq : SqD (.lst (iL ns)) ns := .inl rfl
  have e0 : iL (List.replicate ns.length 1) = iL (ns.map fun a => a ^ 0) := by
    have : (ns.map fun a => a ^ 0) = List.replicate ns.length 1 := by
      apply List.ext_getElem
      · simp
      · intro i h1 h2; simp
    rw [this]
  rw [Nat.zero_add] at hlp
  refine run_rt ((w_seq (w_par (v_cons (v_loc (v_lst v_nil)) (v_cons (v_frz (v_fOp (es := iL (ns.map fun a => a ^ 0)) (v_frz (v_lst (v_cons v_c v_nil))) (v_B (v_cons v_var v_nil) (hq.len _)) ((kRep_int _ 1 _ (by omega)).trans (congrArg some e0)))) v_nil)))).trans ((w_seq ((w_for (v_iB (v_cons v_var v_nil) (kRange1_nat _ many hM))).trans hlp)).trans (w_ret (v_B (d := .tup (iL (pwL ns many))) (v_cons v_var v_nil) ?_)))) (endTup hS)
  show (seqOf (S ++ [O.lst (iL (pwL ns many))]) (.loc S.length)).map D.tup = _
  rw [seqOf_loc last_get]; rfl
end
end M2

/-! P7: the product of two polynomials -/
namespace M2
open PySem PySem.Spec PyProof.Rows L2

def tmF (a b : List Int) (i j k : Nat) : Int := su i (fun x => su b.length fun y => if x + y = k then a.getD x 0 * b.getD y 0 else 0) + su j fun y => if i + y = k then a.getD i 0 * b.getD y 0 else 0
def tmP (a b : List Int) (i j : Nat) : List Int := (List.range (a.length + b.length - 1)).map (tmF a b i j)
def tmL (a b : List Int) : List Int := tmP a b a.length 0
theorem tmP_step (a b : List Int) (i j : Nat) : (tmP a b i j).set (i + j) (tmF a b i j (i + j) + a.getD i 0 * b.getD j 0) = tmP a b i (j + 1) := by
  apply List.ext_getElem
  · simp [tmP]
  · intro k h1 h2
    have hk : k < a.length + b.length - 1 := by simpa [tmP] using h2
    rw [List.getElem_set]
    have e2 : (tmP a b i (j + 1))[k] = tmF a b i (j + 1) k := by simp [tmP]
    have e3 : tmF a b i (j + 1) k = tmF a b i j k + (if i + j = k then a.getD i 0 * b.getD j 0 else 0) := by
      unfold tmF
      rw [show su (j + 1) (fun y => if i + y = k then a.getD i 0 * b.getD y 0 else 0) = su j (fun y => if i + y = k then a.getD i 0 * b.getD y 0 else 0) + (if i + j = k then a.getD i 0 * b.getD j 0 else 0) from rfl, Int.add_assoc]
    rw [e2, e3]
    split
    · rename_i e
      subst e
      rfl
    · rename_i e
      rw [Int.add_zero]
      simp [tmP]
theorem tmP_next (a b : List Int) (i : Nat) : tmP a b i b.length = tmP a b (i + 1) 0 := by
  unfold tmP
  apply List.map_congr_left
  intro k _
  show tmF a b i b.length k = su i _ + su b.length _ + 0
  rw [Int.add_zero]; rfl
theorem tmP_zero (a b : List Int) : tmP a b 0 0 = List.replicate (a.length + b.length - 1) 0 := by
  apply List.ext_getElem
  · simp [tmP]
  · intro k h1 h2
    have e : (tmP a b 0 0)[k] = tmF a b 0 0 k := by simp [tmP]
    rw [e, List.getElem_replicate]; rfl
theorem tmP_length (a b : List Int) (i j : Nat) : (tmP a b i j).length = a.length + b.length - 1 := by simp [tmP]
theorem tmP_get (a b : List Int) {i j k : Nat} (h : k < a.length + b.length - 1) : (tmP a b i j).getD k 0 = tmF a b i j k := by
  rw [List.getD_eq_getElem?_getD, List.getElem?_eq_getElem (by rw [tmP_length]; exact h)]
  simp [tmP]
theorem drop_cons {l : List Int} {i : Nat} (h : i < l.length) : l.drop i = l.getD i 0 :: l.drop (i + 1) := by
  rw [List.drop_eq_getElem_cons h, List.getD_eq_getElem?_getD, List.getElem?_eq_getElem h]; rfl
theorem kSetIx_loc {S : Sto} {xs : List D} {j : Nat} {i : Int} {v : D} (e : i = j) (h : j < xs.length) : kSetIx (S ++ [.lst xs]) (.loc S.length) (.int i) v = some (S ++ [.lst (xs.set j v)]) := by
  subst e
  unfold kSetIx
  rw [locOf_loc last_get]
  show (ixN xs.length (j : Int)).map (fun k => (S ++ [O.lst xs]).set S.length (.lst (xs.set k v))) = _
  unfold ixN
  rw [if_pos (by omega), if_pos (by omega), Int.toNat_natCast]
  show some ((S ++ [O.lst xs]).set S.length (.lst (xs.set j v))) = _
  rw [last_set]
noncomputable abbrev tmB : Blk := bSetIx (eVar 2) (eOp kAdd (eVar 3) (eVar 5)) (eOp kAdd (eOp kIx (eVar 2) (eOp kAdd (eVar 3) (eVar 5))) (eOp kMul (eVar 4) (eVar 6)))
section
variable {S : Sto} {a b : List Int}
theorem tm_in (hsm : ∀ x ∈ a, small x) {d1 d2 : D} {i : Nat} (hi : i < a.length) : ∀ (m j : Nat) (x5 x6 : Option D), j + m = b.length → ∃ y5 y6, forL [] (.tp [(.nm 5), (.nm 6)]) tmB (enumD j (iL (b.drop j))) [some d1, some d2, some (.loc S.length), some (.int i), some (.int (a.getD i 0)), x5, x6] (S ++ [.lst (iL (tmP a b i j))]) =
    .nx [some d1, some d2, some (.loc S.length), some (.int i), some (.int (a.getD i 0)), y5, y6] (S ++ [.lst (iL (tmP a b i b.length))])
  | 0, j, x5, x6, h => by
    have : j = b.length := by omega
    subst this
    rw [List.drop_length]
    exact ⟨x5, x6, rfl⟩
  | m + 1, j, x5, x6, h => by
    obtain ⟨y5, y6, ih⟩ := tm_in hsm hi m (j + 1) (some (.int j)) (some (.int (b.getD j 0))) (by omega)
    refine ⟨y5, y6, ?_⟩
    have hk : i + j < a.length + b.length - 1 := by omega
    have e1 : tmB [some d1, some d2, some (.loc S.length), some (.int i), some (.int (a.getD i 0)), some (.int j), some (.int (b.getD j 0))] (S ++ [.lst (iL (tmP a b i j))]) = .nx [some d1, some d2, some (.loc S.length), some (.int i), some (.int (a.getD i 0)), some (.int j), some (.int (b.getD j 0))] (S ++ [.lst (iL (tmP a b i (j + 1)))]) := by
      refine w_setIx (v_op (v_op v_var (v_op v_var v_var rfl) ((kIx_loc last_get).trans (atI_int (j := i + j) (by omega) (by rw [tmP_length]; exact hk)))) (v_op v_var v_var (kMul_int _ (mulOk_l (hsm _ (getD_mem hi))))) rfl) v_var (v_op v_var v_var rfl) ((kSetIx_loc (j := i + j) (by omega) (by rw [List.length_map, tmP_length]; exact hk)).trans ?_)
      rw [← tmP_step, tmP_get a b hk]
      show some (S ++ [O.lst ((List.map D.int (tmP a b i j)).set (i + j) (D.int (tmF a b i j (i + j) + a.getD i 0 * b.getD j 0)))]) = some (S ++ [O.lst (List.map D.int ((tmP a b i j).set (i + j) (tmF a b i j (i + j) + a.getD i 0 * b.getD j 0)))])
      rw [List.map_set]
    rw [drop_cons (by omega)]
    refine (forL_cons (d := .tup [.int j, .int (b.getD j 0)]) (ds := enumD (j + 1) (iL (b.drop (j + 1)))) srcs0 rfl).trans ?_
    show (match tmB [some d1, some d2, some (.loc S.length), some (.int i), some (.int (a.getD i 0)), some (.int j), some (.int (b.getD j 0))] (S ++ [.lst (iL (tmP a b i j))]) with
        | .nx ρ2 S2 => forL [] (.tp [(.nm 5), (.nm 6)]) tmB (enumD (j + 1) (iL (b.drop (j + 1)))) ρ2 S2
        | .ct ρ2 S2 => forL [] (.tp [(.nm 5), (.nm 6)]) tmB (enumD (j + 1) (iL (b.drop (j + 1)))) ρ2 S2
        | .bk ρ2 S2 => Flow.nx ρ2 S2
        | r => r) = _
    rw [e1]
    exact ih
noncomputable abbrev tmO : Blk := bFor (iB kEnum (qCons (eVar 1) qNil)) (.tp [(.nm 5), (.nm 6)]) tmB
theorem tm_out (hsm : ∀ x ∈ a, small x) {d1 : D} : ∀ (m i : Nat) (x3 x4 x5 x6 : Option D), i + m = a.length → ∃ y3 y4 y5 y6, forL [] (.tp [(.nm 3), (.nm 4)]) tmO (enumD i (iL (a.drop i))) [some d1, some (.lst (iL b)), some (.loc S.length), x3, x4, x5, x6] (S ++ [.lst (iL (tmP a b i 0))]) =
    .nx [some d1, some (.lst (iL b)), some (.loc S.length), y3, y4, y5, y6] (S ++ [.lst (iL (tmP a b a.length 0))])
  | 0, i, x3, x4, x5, x6, h => by
    have : i = a.length := by omega
    subst this
    rw [List.drop_length]
    exact ⟨x3, x4, x5, x6, rfl⟩
  | m + 1, i, x3, x4, x5, x6, h => by
    obtain ⟨z5, z6, hin⟩ := tm_in (S := S) (b := b) hsm (d1 := d1) (d2 := .lst (iL b)) (i := i) (by omega) b.length 0 x5 x6 (by omega)
    obtain ⟨y3, y4, y5, y6, ih⟩ := tm_out hsm (d1 := d1) m (i + 1) (some (.int i)) (some (.int (a.getD i 0))) z5 z6 (by omega)
    refine ⟨y3, y4, y5, y6, ?_⟩
    rw [tmP_next] at hin
    have e1 : tmO [some d1, some (.lst (iL b)), some (.loc S.length), some (.int i), some (.int (a.getD i 0)), x5, x6] (S ++ [.lst (iL (tmP a b i 0))]) = .nx [some d1, some (.lst (iL b)), some (.loc S.length), some (.int i), some (.int (a.getD i 0)), z5, z6] (S ++ [.lst (iL (tmP a b (i + 1) 0))]) :=
      (w_for (ds := enumD 0 (iL b)) (src := []) (v_iB (v_cons v_var v_nil) rfl)).trans hin
    rw [drop_cons (by omega)]
    refine (forL_cons (d := .tup [.int i, .int (a.getD i 0)]) (ds := enumD (i + 1) (iL (a.drop (i + 1)))) srcs0 rfl).trans ?_
    show (match tmO [some d1, some (.lst (iL b)), some (.loc S.length), some (.int i), some (.int (a.getD i 0)), x5, x6] (S ++ [.lst (iL (tmP a b i 0))]) with
        | .nx ρ2 S2 => forL [] (.tp [(.nm 3), (.nm 4)]) tmO (enumD (i + 1) (iL (a.drop (i + 1)))) ρ2 S2
        | .ct ρ2 S2 => forL [] (.tp [(.nm 3), (.nm 4)]) tmO (enumD (i + 1) (iL (a.drop (i + 1)))) ρ2 S2
        | .bk ρ2 S2 => Flow.nx ρ2 S2
        | r => r) = _
    rw [e1]
    exact ih
theorem c_times (hS : Wf S) (hsm : ∀ x ∈ a, small x) (ha : a.length ≤ 100) (hb : b.length ≤ 100) (h1 : 1 ≤ a.length) : m__law_times [.lst (iL a), .lst (iL b)] S = .ok (.lst (iL (tmL a b))) S := by
  have qa : SqD (.lst (iL a)) a := .inl rfl
  have qb : SqD (.lst (iL b)) b := .inl rfl
  obtain ⟨y3, y4, y5, y6, ho⟩ := tm_out (S := S) (b := b) hsm (d1 := .lst (iL a)) a.length 0 none none none none (by omega)
  rw [tmP_zero] at ho
  have hr : kRep S (.lst [.int 0]) (.int ((a.length : Int) + (b.length : Int) - 1)) = some (iL (List.replicate (a.length + b.length - 1) 0)) := by
    rw [show ((a.length : Int) + (b.length : Int) - 1) = ((a.length + b.length - 1 : Nat) : Int) from by omega]
    exact kRep_int S 0 _ (by omega)
  refine run_rt ((w_seq (w_set (v_loc (v_fOp (v_frz (v_lst (v_cons v_c v_nil))) (b := .int ((a.length : Int) + (b.length : Int) - 1)) (v_op (v_op (v_B (v_cons v_var v_nil) (qa.len _)) (v_B (v_cons v_var v_nil) (qb.len _)) rfl) v_c rfl) hr)))).trans ((w_seq ((w_for (ds := enumD 0 (iL a)) (src := []) (v_iB (v_cons v_var v_nil) rfl)).trans ho)).trans (w_ret v_var))) ?_
  refine (clo_loc (Nat.le_refl _) last_get (bnds_ints _ _) (wf_app hS)).trans ?_
  rw [List.take_left' rfl]; rfl
end
end M2

/-! P8: sums, products of sequences, Newton's identities -/
namespace M2

theorem su_congr {f g : Nat → Int} : ∀ n, (∀ i, i < n → f i = g i) → su n f = su n g
  | 0, _ => rfl
  | n + 1, h => by
    show su n f + f n = su n g + g n
    rw [su_congr n fun i hi => h i (by omega), h n (by omega)]
theorem su_zero {f : Nat → Int} (n : Nat) (h : ∀ i, i < n → f i = 0) : su n f = 0 := by
  induction n with
  | zero => rfl
  | succ n ih => show su n f + f n = 0; rw [ih fun i hi => h i (by omega), h n (by omega)]; rfl
theorem su_add (f g : Nat → Int) : ∀ n, su n (fun i => f i + g i) = su n f + su n g
  | 0 => rfl
  | n + 1 => by show su n _ + (f n + g n) = (su n f + f n) + (su n g + g n); rw [su_add f g n]; omega
theorem su_neg (f : Nat → Int) : ∀ n, su n (fun i => -f i) = -su n f
  | 0 => rfl
  | n + 1 => by show su n _ + -f n = -(su n f + f n); rw [su_neg f n]; omega
theorem su_mul (c : Int) (f : Nat → Int) : ∀ n, su n (fun i => c * f i) = c * su n f
  | 0 => (Int.mul_zero c).symm
  | n + 1 => by show su n _ + c * f n = c * (su n f + f n); rw [su_mul c f n, Int.mul_add]
theorem su_mulr (c : Int) (f : Nat → Int) (n : Nat) : su n (fun i => f i * c) = su n f * c := by
  rw [Int.mul_comm, ← su_mul]
  exact su_congr n fun i _ => Int.mul_comm _ _
theorem su_shift (f : Nat → Int) : ∀ n, su (n + 1) f = f 0 + su n fun i => f (1 + i)
  | 0 => by show 0 + f 0 = f 0 + 0; omega
  | n + 1 => by
    show su (n + 1) f + f (n + 1) = f 0 + (su n (fun i => f (1 + i)) + f (1 + n))
    rw [su_shift f n, Nat.add_comm 1 n]; omega
theorem su_rev (f : Nat → Int) : ∀ n, su n (fun i => f (n - 1 - i)) = su n f
  | 0 => rfl
  | n + 1 => by
    rw [su_shift]
    show f (n + 1 - 1 - 0) + su n (fun i => f (n + 1 - 1 - (1 + i))) = su n f + f n
    rw [su_congr (f := fun i => f (n + 1 - 1 - (1 + i))) (g := fun i => f (n - 1 - i)) n fun i hi => by congr 1; omega, su_rev f n]
    have e : n + 1 - 1 - 0 = n := by omega
    rw [e, Int.add_comm]
theorem su_ext {f : Nat → Int} {n m : Nat} (h : n ≤ m) (z : ∀ i, n ≤ i → i < m → f i = 0) : su n f = su m f := by
  induction m with
  | zero =>
    have : n = 0 := by omega
    rw [this]
  | succ m ih =>
    by_cases e : n = m + 1
    · rw [e]
    · show su n f = su m f + f m
      rw [ih (by omega) fun i h1 h2 => z i h1 (by omega), z m (by omega) (by omega), Int.add_zero]
theorem su_one (n c : Nat) (v : Nat → Int) : su n (fun y => if y = c then v y else 0) = if c < n then v c else 0 := by
  induction n with
  | zero => rfl
  | succ n ih =>
    show su n _ + (if n = c then v n else 0) = _
    rw [ih]
    by_cases h1 : n = c
    · subst h1
      rw [if_neg (by omega), if_pos rfl, if_pos (by omega), Int.zero_add]
    · rw [if_neg h1, Int.add_zero]
      by_cases h2 : c < n
      · rw [if_pos h2, if_pos (by omega)]
      · rw [if_neg h2, if_neg (by omega)]
theorem su_bd {f : Nat → Int} {B : Int} (hB : 0 ≤ B) : ∀ n : Nat, (∀ i, i < n → -B ≤ f i ∧ f i ≤ B) → -(n * B) ≤ su n f ∧ su n f ≤ n * B
  | 0, _ => by simp [su]
  | n + 1, h => by
    have ih := su_bd hB n fun i hi => h i (by omega)
    have h1 := h n (by omega)
    have e : ((n + 1 : Nat) : Int) * B = n * B + B := by rw [Int.natCast_add, Int.add_mul]; simp
    rw [e]
    show -(n * B + B) ≤ su n f + f n ∧ su n f + f n ≤ n * B + B
    omega
/-- a triangle summed both ways -/
theorem su_tri (F : Nat → Nat → Int) : ∀ n, su n (fun m => su (m + 1) fun i => F i (m - i)) = su n fun i => su (n - i) (F i)
  | 0 => rfl
  | n + 1 => by
    show su n (fun m => su (m + 1) fun i => F i (m - i)) + (su n (fun i => F i (n - i)) + F n (n - n)) = su n (fun i => su (n + 1 - i) (F i)) + su (n + 1 - n) (F n)
    rw [su_tri F n]
    have e1 : su n (fun i => su (n + 1 - i) (F i)) = su n (fun i => su (n - i) (F i)) + su n (fun i => F i (n - i)) := by
      rw [← su_add]
      refine su_congr n fun i hi => ?_
      rw [show n + 1 - i = (n - i) + 1 from by omega]; rfl
    have e2 : su (n + 1 - n) (F n) = F n (n - n) := by
      rw [show n + 1 - n = 0 + 1 from by omega, show n - n = 0 from by omega]
      show 0 + F n 0 = F n 0
      rw [Int.zero_add]
    rw [e1, e2]; omega
def conv (f g : Nat → Int) (k : Nat) : Int := su (k + 1) fun i => f i * g (k - i)
theorem conv_comm (f g : Nat → Int) : conv f g = conv g f := by
  funext k
  unfold conv
  rw [← su_rev]
  refine su_congr _ fun i hi => ?_
  show f (k + 1 - 1 - i) * g (k - (k + 1 - 1 - i)) = g i * f (k - i)
  rw [show k + 1 - 1 - i = k - i from by omega, show k - (k - i) = i from by omega, Int.mul_comm]
theorem conv_assoc (f g h : Nat → Int) : conv (conv f g) h = conv f (conv g h) := by
  funext k
  have e1 : conv (conv f g) h k = su (k + 1) fun m => su (m + 1) fun i => f i * g (m - i) * h (k - (i + (m - i))) := by
    refine su_congr _ fun m hm => ?_
    show su (m + 1) (fun i => f i * g (m - i)) * h (k - m) = _
    rw [← su_mulr]
    refine su_congr _ fun i hi => ?_
    rw [show i + (m - i) = m from by omega]
  rw [e1, su_tri fun i j => f i * g j * h (k - (i + j))]
  refine su_congr _ fun i hi => ?_
  show su (k + 1 - i) (fun j => f i * g j * h (k - (i + j))) = f i * su (k - i + 1) fun j => g j * h (k - i - j)
  rw [← su_mul, show k + 1 - i = k - i + 1 from by omega]
  refine su_congr _ fun j hj => ?_
  rw [Int.mul_assoc, show k - (i + j) = k - i - j from by omega]
theorem conv_add (f g h : Nat → Int) : conv f (fun k => g k + h k) = fun k => conv f g k + conv f h k := by
  funext k
  unfold conv
  rw [← su_add]
  exact su_congr _ fun i _ => Int.mul_add _ _ _
theorem conv_neg (f g : Nat → Int) : conv f (fun k => -g k) = fun k => -conv f g k := by
  funext k
  unfold conv
  rw [← su_neg]
  exact su_congr _ fun i _ => Int.mul_neg _ _
def dv (f : Nat → Int) (k : Nat) : Int := k * f k
theorem dv_conv (f g : Nat → Int) (k : Nat) : dv (conv f g) k = conv (dv f) g k + conv f (dv g) k := by
  unfold dv conv
  rw [← su_mul, ← su_add]
  refine su_congr _ fun i hi => ?_
  have e : (k : Int) = (i : Int) + ((k - i : Nat) : Int) := by omega
  rw [e, Int.add_mul]
  congr 1
  · rw [Int.mul_assoc]
  · rw [← Int.mul_assoc, Int.mul_comm ((k - i : Nat) : Int) (f i), Int.mul_assoc]
/-- the identities below N -/
def NewtB (N : Nat) (E s : Nat → Int) : Prop := ∀ k, 1 ≤ k → k < N → su k (fun j => E j * s (k - j)) = -(k * E k)
def Newt (E s : Nat → Int) : Prop := ∀ k, 1 ≤ k → su k (fun j => E j * s (k - j)) = -(k * E k)
def cut0 (s : Nat → Int) (k : Nat) : Int := if k = 0 then 0 else s k
theorem newt_conv {E s : Nat → Int} : Newt E s ↔ conv E (cut0 s) = fun k => -dv E k := by
  have key : ∀ k, conv E (cut0 s) k = su k fun j => E j * s (k - j) := fun k => by
    show su k _ + E k * cut0 s (k - k) = _
    rw [show k - k = 0 from by omega]
    show _ + E k * 0 = _
    rw [Int.mul_zero, Int.add_zero]
    refine su_congr _ fun j hj => ?_
    show E j * (if k - j = 0 then 0 else s (k - j)) = _
    rw [if_neg (by omega)]
  constructor
  · intro h
    funext k
    rw [key]
    by_cases hk : k = 0
    · subst hk
      show (0 : Int) = -(((0 : Nat) : Int) * E 0)
      simp
    · exact h k (by omega)
  · intro h k hk
    rw [← key, h]; rfl
theorem newt_mul {E F s t : Nat → Int} (h1 : Newt E s) (h2 : Newt F t) : Newt (conv E F) fun k => s k + t k := by
  have g1 := newt_conv.mp h1
  have g2 := newt_conv.mp h2
  refine newt_conv.mpr ?_
  have e0 : cut0 (fun k => s k + t k) = fun k => cut0 s k + cut0 t k := by
    funext k
    unfold cut0
    by_cases hk : k = 0
    · rw [if_pos hk, if_pos hk, if_pos hk]; rfl
    · rw [if_neg hk, if_neg hk, if_neg hk]
  have e1 : conv (conv E F) (cut0 s) = fun k => -conv F (dv E) k := by
    rw [conv_comm E F, conv_assoc, g1, conv_neg]
  have e2 : conv (conv E F) (cut0 t) = fun k => -conv E (dv F) k := by
    rw [conv_assoc, g2, conv_neg]
  rw [e0, conv_add, e1, e2]
  funext k
  show -conv F (dv E) k + -conv E (dv F) k = -dv (conv E F) k
  rw [dv_conv, conv_comm F (dv E)]; omega
theorem newt_split {E s : Nat → Int} (h0 : E 0 = 1) {k : Nat} (hk : 1 ≤ k) : su k (fun j => E j * s (k - j)) = s k + su (k - 1) fun i => E (1 + i) * s (k - (1 + i)) := by
  obtain ⟨n, rfl⟩ : ∃ n, k = n + 1 := ⟨k - 1, by omega⟩
  rw [su_shift, h0, Int.one_mul]; rfl
theorem newt_uniq {N : Nat} {E s t : Nat → Int} (h0 : E 0 = 1) (h1 : NewtB N E s) (h2 : NewtB N E t) : ∀ k, 1 ≤ k → k < N → s k = t k := by
  intro k
  induction k using Nat.strongRecOn with
  | _ k ih =>
    intro hk hN
    have a := h1 k hk hN
    have b := h2 k hk hN
    rw [newt_split h0 hk] at a b
    have e : su (k - 1) (fun i => E (1 + i) * s (k - (1 + i))) = su (k - 1) fun i => E (1 + i) * t (k - (1 + i)) := su_congr _ fun i hi => by
      rw [ih (k - (1 + i)) (by omega) (by omega) (by omega)]
    rw [e] at a
    omega
theorem Newt.b {E s : Nat → Int} (h : Newt E s) (N : Nat) : NewtB N E s := fun k h1 _ => h k h1
/-- the coefficients from the last on -/
def co (p : List Int) (k : Nat) : Int := p.reverse.getD k 0
theorem getD_out {l : List Int} {k : Nat} (h : l.length ≤ k) : l.getD k 0 = 0 := by
  rw [List.getD_eq_getElem?_getD, List.getElem?_eq_none h]; rfl
theorem co_out {p : List Int} {k : Nat} (h : p.length ≤ k) : co p k = 0 := getD_out (by rw [List.length_reverse]; exact h)
theorem co_get {p : List Int} {k : Nat} (h : k < p.length) : co p k = p.getD (p.length - 1 - k) 0 := by
  unfold co
  rw [List.getD_eq_getElem?_getD, List.getD_eq_getElem?_getD, List.getElem?_reverse h]
theorem co_mul {a b : List Int} (ha : 1 ≤ a.length) (hb : 1 ≤ b.length) : co (tmL a b) = conv (co a) (co b) := by
  funext k
  have hL : (tmL a b).length = a.length + b.length - 1 := tmP_length a b _ _
  by_cases hk : k < a.length + b.length - 1
  · rw [co_get (by rw [hL]; exact hk), hL]
    have e1 : (tmL a b).getD (a.length + b.length - 1 - 1 - k) 0 = su a.length fun x => su b.length fun y => if x + y = a.length + b.length - 1 - 1 - k then a.getD x 0 * b.getD y 0 else 0 := by
      unfold tmL
      rw [tmP_get a b (by omega)]
      show su a.length _ + 0 = _
      rw [Int.add_zero]
    rw [e1, ← su_rev]
    have e2 : su a.length (fun i => su b.length fun y => if (a.length - 1 - i) + y = a.length + b.length - 1 - 1 - k then a.getD (a.length - 1 - i) 0 * b.getD y 0 else 0) = su a.length fun i => if i ≤ k then co a i * co b (k - i) else 0 := by
      refine su_congr _ fun i hi => ?_
      rw [← su_rev]
      have e3 : su b.length (fun j => if (a.length - 1 - i) + (b.length - 1 - j) = a.length + b.length - 1 - 1 - k then a.getD (a.length - 1 - i) 0 * b.getD (b.length - 1 - j) 0 else 0) = su b.length fun j => if j = k - i then (if i ≤ k then co a i * co b j else 0) else 0 := by
        refine su_congr _ fun j hj => ?_
        rw [← co_get hi, ← co_get hj]
        by_cases h1 : i + j = k
        · rw [if_pos (by omega), if_pos (by omega), if_pos (by omega)]
        · rw [if_neg (by omega)]
          by_cases h2 : j = k - i
          · rw [if_pos h2, if_neg (by omega)]
          · rw [if_neg h2]
      rw [e3, su_one b.length (k - i) fun j => if i ≤ k then co a i * co b j else 0]
      by_cases h1 : k - i < b.length
      · rw [if_pos h1]
      · rw [if_neg h1]
        by_cases h2 : i ≤ k
        · rw [if_pos h2, co_out (p := b) (by omega), Int.mul_zero]
        · rw [if_neg h2]
    rw [e2]
    have e4 : su a.length (fun i => if i ≤ k then co a i * co b (k - i) else 0) = su (a.length + (k + 1)) fun i => if i ≤ k then co a i * co b (k - i) else 0 := su_ext (by omega) fun i h1 _ => by
      rw [co_out h1, Int.zero_mul]
      split <;> rfl
    have e5 : conv (co a) (co b) k = su (a.length + (k + 1)) fun i => if i ≤ k then co a i * co b (k - i) else 0 := by
      unfold conv
      rw [su_congr (g := fun i => if i ≤ k then co a i * co b (k - i) else 0) _ fun i hi => by rw [if_pos (by omega)]]
      exact su_ext (by omega) fun i h1 _ => if_neg (by omega)
    rw [e4, e5]
  · rw [co_out (by omega)]
    refine (su_zero _ fun i hi => ?_).symm
    by_cases h1 : i < a.length
    · rw [co_out (p := b) (by omega), Int.mul_zero]
    · rw [co_out (p := a) (by omega), Int.zero_mul]
end M2

/-! P9: there and back -/
namespace M2

theorem getD_range {f : Nat → Int} {n i : Nat} (h : i < n) : ((List.range n).map f).getD i 0 = f i := by
  rw [List.getD_eq_getElem?_getD, List.getElem?_map, List.getElem?_range h]; rfl
theorem lenL_snoc (ns : List Int) : ∀ (m : Nat) (fs : List Int), lenL ns (m + 1) fs = lenL ns m fs ++ [nextL ns (lenL ns m fs)]
  | 0, _ => rfl
  | m + 1, fs => lenL_snoc ns m (fs ++ [nextL ns fs])
def trS (p : List Int) (k : Nat) : Int := (lenL p.reverse k [(p.length : Int) - 1]).getD k 0
theorem trS_step (p : List Int) (m : Nat) : trS p (m + 1) = nextL p.reverse (lenL p.reverse m [(p.length : Int) - 1]) := by
  have hl : (lenL p.reverse m [(p.length : Int) - 1]).length = m + 1 := by rw [lenL_length, List.length_singleton]; omega
  unfold trS
  rw [lenL_snoc, List.getD_eq_getElem?_getD, List.getElem?_append_right (by omega), hl, Nat.sub_self]; rfl
theorem lenL_map (p : List Int) : ∀ m, lenL p.reverse m [(p.length : Int) - 1] = (List.range (m + 1)).map (trS p)
  | 0 => rfl
  | m + 1 => by
    rw [lenL_snoc, ← trS_step, lenL_map p m, List.range_succ (n := m + 1), List.map_append]; rfl
theorem trL_map (p : List Int) {many : Nat} (h : 1 ≤ many) : trL p many = (List.range many).map (trS p) := by
  unfold trL
  rw [lenL_map, show many - 1 + 1 = many from by omega]
theorem nextL_co (p : List Int) (s : Nat → Int) {k : Nat} (hk : 1 ≤ k) : nextL p.reverse ((List.range k).map s) = -(k * co p k) - su (k - 1) fun i => co p (1 + i) * s (k - (1 + i)) := by
  unfold nextL
  rw [List.length_map, List.length_range, List.length_reverse]
  have e1 : (if k < p.length then (k : Int) * p.reverse.getD k 0 else 0) = k * co p k := by
    split
    · rfl
    · rw [co_out (by omega), Int.mul_zero]
  have e2 : su (min k p.length - 1) (fun i => p.reverse.getD (1 + i) 0 * ((List.range k).map s).getD (k - (1 + i)) 0) = su (k - 1) fun i => co p (1 + i) * s (k - (1 + i)) := by
    rw [su_congr (g := fun i => co p (1 + i) * s (k - (1 + i))) _ fun i hi => by rw [getD_range (by omega)]; rfl]
    exact su_ext (by omega) fun i h1 h2 => by rw [co_out (p := p) (by omega), Int.zero_mul]
  rw [e1, e2]
theorem trS_newt {p : List Int} (h0 : co p 0 = 1) : Newt (co p) (trS p) := fun k hk => by
  obtain ⟨m, rfl⟩ : ∃ m, k = m + 1 := ⟨k - 1, by omega⟩
  rw [newt_split h0 hk, trS_step, lenL_map, nextL_co p _ hk]
  omega
theorem trS_of {p : List Int} (h0 : co p 0 = 1) {s : Nat → Int} (h : Newt (co p) s) (hs : s 0 = (p.length : Int) - 1) (k : Nat) : trS p k = s k := by
  cases k with
  | zero => exact hs.symm
  | succ k => exact newt_uniq (N := k + 2) h0 ((trS_newt h0).b _) (h.b _) (k + 1) (by omega) (by omega)
theorem trL_of {p : List Int} (h0 : co p 0 = 1) {s : Nat → Int} (h : Newt (co p) s) (hs : s 0 = (p.length : Int) - 1) {many : Nat} (hm : 1 ≤ many) : trL p many = (List.range many).map s := by
  rw [trL_map p hm]
  exact List.map_congr_left fun k _ => trS_of h0 h hs k
theorem totL_su (ts : List Int) (k : Nat) : ∀ (fs : List Int) (a : Nat), totL ts k a fs = su fs.length fun j => ts.getD (k - (a + j)) 0 * fs.getD j 0
  | [], _ => rfl
  | x :: fs, a => by
    rw [List.length_cons, su_shift]
    show ts.getD (k - a) 0 * x + totL ts k (a + 1) fs = ts.getD (k - (a + 0)) 0 * x + _
    rw [totL_su ts k fs (a + 1)]
    congr 1
    refine su_congr _ fun i hi => ?_
    rw [show a + 1 + i = a + (1 + i) from by omega, Nat.add_comm 1 i]; rfl
theorem fmod_mul (a b : Int) : (a * b).fmod a = 0 := by rw [Int.mul_fmod_right]
theorem newL_some {E s : Nat → Int} {n : Nat} (h : Newt E s) : ∀ (m k : Nat), k + m = n → 1 ≤ k → newL ((List.range n).map s) m ((List.range k).map E) = some ((List.range (k + m)).map E)
  | 0, k, _, _ => rfl
  | m + 1, k, hm, hk => by
    have et : tot ((List.range n).map s) ((List.range k).map E) = k * -E k := by
      unfold tot
      rw [totL_su, List.length_map, List.length_range, Int.mul_neg, ← h k hk]
      refine su_congr _ fun j hj => ?_
      rw [getD_range (by omega), getD_range hj, Nat.zero_add, Int.mul_comm]
    have hk0 : (k : Int) ≠ 0 := by omega
    show (if (tot ((List.range n).map s) ((List.range k).map E)).fmod ((List.range k).map E).length = 0 then newL ((List.range n).map s) m ((List.range k).map E ++ [(-(tot ((List.range n).map s) ((List.range k).map E))).fdiv ((List.range k).map E).length]) else none) = _
    rw [et, List.length_map, List.length_range, if_pos (fmod_mul _ _), ← Int.mul_neg, Int.neg_neg, Int.mul_fdiv_cancel_left _ hk0]
    have e2 : (List.range k).map E ++ [E k] = (List.range (k + 1)).map E := by rw [List.range_succ, List.map_append]; rfl
    rw [e2, newL_some h m (k + 1) (by omega) (by omega), show k + 1 + m = k + (m + 1) from by omega]
theorem range_co (p : List Int) : (List.range p.length).map (co p) = p.reverse := by
  apply List.ext_getElem
  · simp
  · intro i h1 h2
    have hi : i < p.length := by simpa using h1
    rw [List.getElem_map, List.getElem_range]
    unfold co
    rw [List.getD_eq_getElem?_getD, List.getElem?_eq_getElem h2]; rfl
theorem newR_of {p : List Int} (h0 : co p 0 = 1) {s : Nat → Int} (h : Newt (co p) s) (hp : 1 ≤ p.length) : newR ((List.range p.length).map s) = some p := by
  unfold newR
  rw [List.length_map, List.length_range]
  have e : [(1 : Int)] = (List.range 1).map (co p) := by
    show [(1 : Int)] = [co p 0]
    rw [h0]
  rw [e, newL_some h (p.length - 1) 1 (by omega) (by omega), show 1 + (p.length - 1) = p.length from by omega, range_co]
  show some p.reverse.reverse = some p
  rw [List.reverse_reverse]
theorem getD_app {l m : List Int} {i : Nat} (h : i < l.length) : (l ++ m).getD i 0 = l.getD i 0 := by
  rw [List.getD_eq_getElem?_getD, List.getD_eq_getElem?_getD, List.getElem?_append_left h]
theorem newL_back (ts : List Int) : ∀ (m : Nat) (fs gs : List Int), newL ts m fs = some gs → 1 ≤ fs.length → gs.length = fs.length + m ∧ (∃ l, gs = fs ++ l) ∧ ∀ k, fs.length ≤ k → k < gs.length → su k (fun j => gs.getD j 0 * ts.getD (k - j) 0) = -(k * gs.getD k 0)
  | 0, fs, gs, e, _ => by
    cases e
    exact ⟨rfl, ⟨[], (List.append_nil _).symm⟩, fun k h1 h2 => absurd h1 (by omega)⟩
  | m + 1, fs, gs, e, h1 => by
    have e : (if (tot ts fs).fmod fs.length = 0 then newL ts m (fs ++ [(-(tot ts fs)).fdiv fs.length]) else none) = some gs := e
    split at e
    · rename_i hc
      obtain ⟨g1, ⟨l, rfl⟩, g3⟩ := newL_back ts m _ gs e (by rw [List.length_append]; omega)
      refine ⟨by rw [g1, List.length_append, List.length_singleton]; omega, ⟨_, List.append_assoc _ _ _⟩, fun k hk1 hk2 => ?_⟩
      by_cases hk : k = fs.length
      · subst hk
        have e1 : su fs.length (fun j => (fs ++ [(-(tot ts fs)).fdiv fs.length] ++ l).getD j 0 * ts.getD (fs.length - j) 0) = tot ts fs := by
          unfold tot
          rw [totL_su]
          refine su_congr _ fun j hj => ?_
          rw [List.append_assoc, getD_app hj, Nat.zero_add, Int.mul_comm]
        have e2 : (fs ++ [(-(tot ts fs)).fdiv fs.length] ++ l).getD fs.length 0 = (-(tot ts fs)).fdiv fs.length := by
          rw [getD_app (by rw [List.length_append, List.length_singleton]; omega), List.getD_eq_getElem?_getD, List.getElem?_append_right (by omega), Nat.sub_self]; rfl
        rw [e1, e2]
        have hk0 : (fs.length : Int) ≠ 0 := by omega
        have hd := Int.mul_fdiv_add_fmod (tot ts fs) fs.length
        rw [hc, Int.add_zero] at hd
        have e3 : (-(tot ts fs)).fdiv fs.length = -((tot ts fs).fdiv fs.length) := by
          rw [← Int.mul_fdiv_cancel_left (-((tot ts fs).fdiv fs.length)) hk0, Int.mul_neg, hd]
        rw [e3, Int.mul_neg, hd, Int.neg_neg]
      · exact g3 k (by rw [List.length_append, List.length_singleton]; omega) hk2
    · cases e
/-- what newton tells has the numbers -/
theorem newR_back {ts p : List Int} (h : newR ts = some p) (h1 : 1 ≤ ts.length) (h0 : ts.getD 0 0 = (ts.length : Int) - 1) : p.length = ts.length ∧ co p 0 = 1 ∧ trL p ts.length = ts := by
  unfold newR at h
  cases e : newL ts (ts.length - 1) [1] with
  | none => rw [e] at h; cases h
  | some gs =>
    rw [e] at h
    have h : some gs.reverse = some p := h
    cases h
    obtain ⟨g1, ⟨l, g2⟩, g3⟩ := newL_back ts _ _ gs e (Nat.le_refl _)
    have hl : gs.length = ts.length := by rw [g1, List.length_singleton]; omega
    have hco : ∀ k, co gs.reverse k = gs.getD k 0 := fun k => by unfold co; rw [List.reverse_reverse]
    have hc0 : co gs.reverse 0 = 1 := by rw [hco, g2]; rfl
    have nb : NewtB ts.length (co gs.reverse) fun k => ts.getD k 0 := fun k hk1 hk2 => by
      have := g3 k (by rw [List.length_singleton]; exact hk1) (by omega)
      rw [hco k, ← this]
      exact su_congr _ fun j _ => by rw [hco j]
    refine ⟨by rw [List.length_reverse, hl], hc0, ?_⟩
    rw [trL_map _ h1]
    apply List.ext_getElem
    · simp
    · intro i i1 i2
      rw [List.getElem_map, List.getElem_range]
      have ei : ts.getD i 0 = ts[i] := by rw [List.getD_eq_getElem?_getD, List.getElem?_eq_getElem i2]; rfl
      rw [← ei]
      by_cases hi : i = 0
      · subst hi
        show ((gs.reverse.length : Nat) : Int) - 1 = _
        rw [h0, List.length_reverse, hl]
      · exact newt_uniq hc0 ((trS_newt hc0).b _) nb i (by omega) i2
/-! ### products of x less integers -/
theorem co_lin (a : Int) (k : Nat) : co [-a, 1] k = if k = 0 then 1 else if k = 1 then -a else 0 := by
  unfold co
  match k with
  | 0 => rfl
  | 1 => rfl
  | k + 2 => exact getD_out (by simp)
theorem newt_lin (a : Int) : Newt (co [-a, 1]) fun k => a ^ k := fun k hk => by
  rw [newt_split (by rw [co_lin]; rfl) hk]
  by_cases h1 : k = 1
  · subst h1
    show a ^ 1 + 0 = -((1 : Int) * co [-a, 1] 1)
    rw [co_lin]
    have e : a ^ 1 = a := by rw [show (1 : Nat) = 0 + 1 from rfl, Int.pow_succ, Int.pow_zero, Int.one_mul]
    rw [e, if_neg (by omega), if_pos rfl]
    omega
  · obtain ⟨m, rfl⟩ : ∃ m, k = m + 2 := ⟨k - 2, by omega⟩
    rw [show m + 2 - 1 = m + 1 from by omega, su_shift, su_zero m fun i hi => by rw [co_lin, if_neg (by omega), if_neg (by omega), Int.zero_mul], co_lin, co_lin]
    rw [if_neg (by omega), if_pos (by omega), if_neg (by omega), if_neg (by omega), show m + 2 - (1 + 0) = m + 1 from by omega, Int.pow_succ, Int.neg_mul, Int.mul_comm]
    omega
theorem newt_unit : Newt (co [1]) fun _ => 0 := fun k hk => by
  rw [su_zero k fun i _ => Int.mul_zero _, co_out (p := [1]) (by simpa using hk), Int.mul_zero]; rfl
theorem newt_powers {wh ns : List Int} (h : Newt (co wh) (pwS ns)) (hl : 1 ≤ wh.length) (a : Int) : Newt (co (tmL wh [-a, 1])) (pwS (ns ++ [a])) := by
  rw [co_mul hl (by simp)]
  have e : pwS (ns ++ [a]) = fun k => pwS ns k + a ^ k := by
    funext k
    unfold pwS
    rw [List.map_append, List.sum_append]
    simp
  rw [e]
  exact newt_mul h (newt_lin a)
theorem co_mul0 {a b : List Int} (ha : 1 ≤ a.length) (hb : 1 ≤ b.length) (h1 : co a 0 = 1) (h2 : co b 0 = 1) : co (tmL a b) 0 = 1 := by
  rw [co_mul ha hb]
  show 0 + co a 0 * co b (0 - 0) = 1
  rw [h1, h2]; rfl
theorem pwS_zero (ns : List Int) : pwS ns 0 = ns.length := by
  unfold pwS
  induction ns with
  | nil => rfl
  | cons n ns ih => rw [List.map_cons, List.sum_cons, ih, List.length_cons]; simp; omega
theorem co_last {p : List Int} (hp : 1 ≤ p.length) : co p 0 = p.getD (p.length - 1) 0 := by rw [co_get (by omega), Nat.sub_zero]
end M2

/-! P10: bounds, texts of tuples; products there and back -/
namespace M2
open PySem PySem.Spec PyProof.Rows L2

def bdN (B : Nat) (l : List Int) : Prop := ∀ x ∈ l, x.natAbs ≤ B
theorem bdN_get {B : Nat} {l : List Int} (h : bdN B l) (i : Nat) : (l.getD i 0).natAbs ≤ B := by
  by_cases hi : i < l.length
  · exact h _ (getD_mem hi)
  · rw [getD_out (by omega)]; exact Nat.zero_le _
theorem su_nb {f : Nat → Int} {B : Nat} : ∀ n : Nat, (∀ i, i < n → (f i).natAbs ≤ B) → (su n f).natAbs ≤ n * B
  | 0, _ => by simp [su]
  | n + 1, h => by
    have ih := su_nb n fun i hi => h i (by omega)
    have h1 := h n (by omega)
    have h2 := Int.natAbs_add_le (su n f) (f n)
    show (su n f + f n).natAbs ≤ (n + 1) * B
    rw [Nat.add_mul, Nat.one_mul]; omega
theorem tm_bd {a b : List Int} {A B : Nat} (ha : bdN A a) (hb : bdN B b) : bdN (a.length * (b.length * (A * B))) (tmL a b) := fun x hx => by
  obtain ⟨k, hk, rfl⟩ := List.mem_map.mp hx
  show (su a.length (fun x => su b.length fun y => if x + y = k then a.getD x 0 * b.getD y 0 else 0) + 0).natAbs ≤ _
  rw [Int.add_zero]
  refine su_nb _ fun i _ => su_nb _ fun j _ => ?_
  split
  · rw [Int.natAbs_mul]
    exact Nat.mul_le_mul (bdN_get ha i) (bdN_get hb j)
  · exact Nat.zero_le _
theorem sum_nb {l : List Int} {B : Nat} (h : bdN B l) : l.sum.natAbs ≤ l.length * B := by
  induction l with
  | nil => simp
  | cons x l ih =>
    have h1 := h x List.mem_cons_self
    have h2 := ih fun y hy => h y (List.mem_cons_of_mem _ hy)
    have h3 := Int.natAbs_add_le x l.sum
    rw [List.sum_cons, List.length_cons, Nat.add_mul, Nat.one_mul]; omega
theorem pw_bd {ns : List Int} {B : Nat} (h : bdN B ns) (k : Nat) : (pwS ns k).natAbs ≤ ns.length * B ^ k := by
  unfold pwS
  have e : (ns.map fun a => a ^ k).length = ns.length := List.length_map _
  rw [← e]
  refine sum_nb fun x hx => ?_
  obtain ⟨a, ha, rfl⟩ := List.mem_map.mp hx
  rw [Int.natAbs_pow]
  exact Nat.pow_le_pow_left (h a ha) k
theorem small_of {x : Int} {B : Nat} (h : x.natAbs ≤ B) (hB : B < 18446744073709551616) : small x := ⟨by omega, by omega⟩
/-! ### texts -/
theorem strOk_ofString (s : String) : PyData.strOk (Str.ofString s) = true := by
  unfold PyData.strOk
  rw [Str.ofString_eq_toList]
  simp only [List.all_toArray, List.all_map, List.all_eq_true]
  intro c _
  refine decide_eq_true ?_
  have h := c.valid
  rcases h with h | ⟨_, h⟩
  · exact Nat.lt_trans h (by decide)
  · exact h
theorem strOk_app {x y : Str} (h1 : PyData.strOk x = true) (h2 : PyData.strOk y = true) : PyData.strOk (x ++ y) = true := by
  unfold PyData.strOk at *
  show ((x.cps ++ y.cps).all _) = true
  rw [Array.all_append, h1, h2]; rfl
theorem strOk_join {z : Str} (hz : PyData.strOk z = true) : ∀ ts : List Str, (∀ t ∈ ts, PyData.strOk t = true) → PyData.strOk (Str.join z ts) = true
  | [], _ => by first | (show PyData.strOk Str.empty = true; decide) | simp [Str.join, PyData.strOk, Str.empty]
  | [t], h => h t List.mem_cons_self
  | t :: u :: r, h => strOk_app (strOk_app (h t List.mem_cons_self) hz) (strOk_join hz (u :: r) fun x hx => h x (List.mem_cons_of_mem _ hx))
theorem shownAll_iL : ∀ ns : List Int, PyData.shownAll (ns.map PyData.int) = ns.map fun i => Str.ofString (toString i)
  | [] => by simp [PyData.shownAll]
  | n :: ns => by simp only [List.map_cons, PyData.shownAll, PyData.shown, shownAll_iL ns]
def tupStr (ns : List Int) : Str := tupleText (ns.map fun i => Str.ofString (toString i))
theorem shown_tup (ns : List Int) : PyData.shown (.tuple (ns.map PyData.int)) = tupStr ns := by
  simp only [PyData.shown, shownAll_iL]; rfl
theorem strOk_tup (ns : List Int) : PyData.strOk (tupStr ns) = true := by
  unfold tupStr tupleText
  refine strOk_app (strOk_app (strOk_ofString _) (strOk_join (strOk_ofString _) _ fun t ht => ?_)) (strOk_ofString _)
  obtain ⟨i, _, rfl⟩ := List.mem_map.mp ht
  exact strOk_ofString _
theorem log_small {x : Int} (h : small x) : x.natAbs.log2 < 1920 := by
  by_cases h0 : x.natAbs = 0
  · rw [h0]; decide
  · have h1 : x.natAbs < 2 ^ 64 := by omega
    have h2 : x.natAbs.log2 < 64 := (Nat.log2_lt h0).mpr h1
    omega
theorem showable_iL : ∀ ns : List Int, (∀ x ∈ ns, small x) → PyData.showableAll (ns.map PyData.int) = true
  | [], _ => by simp [PyData.showableAll]
  | n :: ns, h => by
    simp only [List.map_cons, PyData.showableAll, PyData.showable, showable_iL ns fun x hx => h x (List.mem_cons_of_mem _ hx), Bool.and_true]
    exact decide_eq_true (log_small (h n List.mem_cons_self))
theorem noDict_iL : ∀ ns : List Int, PyData.hasDictAll (ns.map PyData.int) = false
  | [] => by simp [PyData.hasDictAll]
  | n :: ns => by simp [PyData.hasDictAll, PyData.hasDict, noDict_iL ns]
theorem piled_iL : ∀ ns : List Int, (∀ x ∈ ns, small x) → piled (ns.map fun i => Str.ofString (toString i)) ≤ ns.length * 1923
  | [], _ => Nat.le_refl _
  | n :: ns, h => by
    have ih := piled_iL ns fun x hx => h x (List.mem_cons_of_mem _ hx)
    have h1 := PyProof.Rows.int_text_len_1921 (log_small (h n List.mem_cons_self))
    rw [List.map_cons, piled_cons, List.length_cons, Nat.add_mul, Nat.one_mul]
    omega
theorem tupStr_len {ns : List Int} (h : ∀ x ∈ ns, small x) (h0 : ns ≠ []) (hl : ns.length ≤ 100) : (tupStr ns).length ≤ sizeLine := by
  have hp := piled_iL ns h
  have hj := join_length_add (ns.map fun i => Str.ofString (toString i)) (by simpa using h0)
  unfold tupStr tupleText
  rw [strLen_append, strLen_append]
  have e1 : ((("(" : String) : Str)).length = 1 := rfl
  have e3 : (((if (ns.map fun i => Str.ofString (toString i)).length == 1 then ",)" else ")" : String) : Str)).length ≤ 2 := by split <;> decide
  rw [e1, sizeLine_eq]
  omega
theorem kRepr_tup (S : Sto) {ns : List Int} (h : ∀ x ∈ ns, small x) (h0 : ns ≠ []) (hl : ns.length ≤ 100) : kRepr S [.tup (iL ns)] = some (.str (tupStr ns)) := by
  have e : dpyS S (.tup (iL ns)) = some (.tuple (ns.map PyData.int)) := by
    show (dpys (iL ns)).map PyData.tuple = _
    rw [dpys_iL]; rfl
  show ((dpyS S (.tup (iL ns))).bind fun p => if reprOk p = true then some (D.str p.shown) else none) = _
  rw [e]
  show (if reprOk (.tuple (ns.map PyData.int)) = true then some (D.str (PyData.shown (.tuple (ns.map PyData.int)))) else none) = _
  rw [if_pos, shown_tup]
  unfold reprOk
  rw [shown_tup, decide_eq_true (tupStr_len h h0 hl)]
  simp [isSeqP, PyData.showable, showable_iL ns h, PyData.depth, depth_iL, PyData.hasDict, noDict_iL]
theorem kEqB_str (S : Sto) {x : Str} (h : PyData.strOk x = true) : kEqB S (.str x) (.str x) = some true := by
  show (if SeqAt.shaped (.str x) = true ∧ SeqAt.shaped (.str x) = true then some (PyData.eqv (.str x) (.str x)) else none) = _
  have e : SeqAt.shaped (.str x) = true := by simp [SeqAt.shaped, PyData.canLay0, PyData.depth, h]
  rw [if_pos ⟨e, e⟩]
  simp [PyData.eqv]
/-! ### products -/
structure Pro (ns wh : List Int) : Prop where
  nw : Newt (co wh) (pwS ns)
  len : wh.length = ns.length + 1
  one : co wh 0 = 1
  bd : bdN (108 ^ ns.length) wh
theorem Pro.start : Pro [] [1] := ⟨newt_unit, rfl, rfl, fun x hx => by rw [List.mem_singleton.mp hx]; decide⟩
theorem Pro.step {ns wh : List Int} (h : Pro ns wh) {a : Int} (ha : a.natAbs ≤ 6) (hl : ns.length ≤ 8) : Pro (ns ++ [a]) (tmL wh [-a, 1]) := by
  have hw : 1 ≤ wh.length := by rw [h.len]; omega
  refine ⟨newt_powers h.nw hw a, ?_, co_mul0 hw (by simp) h.one rfl, fun x hx => ?_⟩
  · have := tmP_length wh [-a, 1] wh.length 0
    unfold tmL
    rw [this, h.len, List.length_append]
    simp
  · have b2 : bdN 6 [-a, 1] := fun y hy => by
      rcases List.mem_cons.mp hy with rfl | hy
      · rw [Int.natAbs_neg]; exact ha
      · rw [List.mem_singleton.mp hy]; decide
    have := tm_bd h.bd b2 x hx
    rw [List.length_append, List.length_singleton, Nat.pow_succ]
    have e : wh.length * ([-a, 1].length * (108 ^ ns.length * 6)) = (108 ^ ns.length) * (wh.length * 12) := by
      show wh.length * (2 * (108 ^ ns.length * 6)) = _
      rw [← Nat.mul_assoc, Nat.mul_comm (wh.length * 2), Nat.mul_assoc, Nat.mul_comm 6, Nat.mul_assoc]
    rw [e] at this
    refine Nat.le_trans this (Nat.mul_le_mul_left _ ?_)
    rw [h.len]; omega
theorem Pro.small {ns wh : List Int} (h : Pro ns wh) (hl : ns.length ≤ 8) : ∀ x ∈ wh, small x := fun x hx =>
  small_of (Nat.le_trans (h.bd x hx) (Nat.pow_le_pow_right (by decide) hl)) (by decide)
section
variable {S : Sto}
noncomputable abbrev prB : Blk := bSet 3 (eCall 2 m__law_times (qCons (eVar 3) (qCons (eFrz (fLst (qCons (eUn kNeg (eVar 4)) (qCons (eC (.int 1)) qNil)))) qNil)))
theorem pr_loop (hS : Wf S) {d N : D} : ∀ (rest done wh : List Int) (x4 : Option D), Pro done wh → done.length + rest.length ≤ 8 → bdN 6 rest → ∃ wh' y4, forL [] (.nm 4) prB (iL rest) [some d, some N, none, some (.lst (iL wh)), x4, none] S = .nx [some d, some N, none, some (.lst (iL wh')), y4, none] S ∧ Pro (done ++ rest) wh'
  | [], done, wh, x4, h, _, _ => ⟨wh, x4, rfl, by rw [List.append_nil]; exact h⟩
  | a :: rest, done, wh, x4, h, hl, hb => by
    rw [List.length_cons] at hl
    have h2 := h.step (hb a List.mem_cons_self) (by omega)
    obtain ⟨wh', y4, ih, hp⟩ := pr_loop hS rest (done ++ [a]) (tmL wh [-a, 1]) (some (.int a)) h2 (by rw [List.length_append, List.length_singleton]; omega) fun x hx => hb x (List.mem_cons_of_mem _ hx)
    rw [List.append_assoc] at hp
    refine ⟨wh', y4, ?_, hp⟩
    have hw := h.len
    have e1 : prB [some d, some N, none, some (.lst (iL wh)), some (.int a), none] S = .nx [some d, some N, none, some (.lst (iL (tmL wh [-a, 1]))), some (.int a), none] S :=
      w_set (v_call (v_cons v_var (v_cons (v_frz (v_lst (v_cons (v_un (a := .int a) v_var rfl) (v_cons v_c v_nil)))) v_nil)) (c_times (a := wh) (b := [-a, 1]) hS (h.small (by omega)) (by omega) (by simp) (by omega)))
    refine (forL_cons (d := .int a) (ds := iL rest) srcs0 rfl).trans ?_
    show (match prB [some d, some N, none, some (.lst (iL wh)), some (.int a), none] S with
        | .nx ρ2 S2 => forL [] (.nm 4) prB (iL rest) ρ2 S2
        | .ct ρ2 S2 => forL [] (.nm 4) prB (iL rest) ρ2 S2
        | .bk ρ2 S2 => Flow.nx ρ2 S2
        | r => r) = _
    rw [e1]
    exact ih
/-- traces of a product -/
theorem c_pro_traces (hS : Wf S) {ns wh : List Int} (h : Pro ns wh) (h1 : 1 ≤ ns.length) (hl : ns.length ≤ 8) {many : Nat} (hm : 1 ≤ many) (hm2 : many ≤ 100) : m_traces_from [.lst (iL wh), .int many] S = .ok (.tup (iL (pwL ns many))) S := by
  have hw := h.len
  have e : trL wh many = pwL ns many := trL_of h.one h.nw (by rw [pwS_zero, hw]; omega) hm
  rw [← e]
  exact c_traces_from hS (.inl rfl) (by omega) (by omega) (by rw [← co_last (by omega)]; exact h.one) hm2 hm fun a ha b _ => mulOk_l (h.small hl a ha)
end
section
variable {cells : List Int} {t r : Int}
theorem endBlJar {c : Bool} {t' r' : Int} : clo (jarS cells t r).length (.bl c) (jarS cells t' r') = .ok (.bl c) (jarS cells t' r') := endBl (wf_jar cells t' r')
theorem c_product (ht : 0 ≤ t) (hT : t ≤ 50000) : ∃ t' r', m__law_product_right [.loc 0] (jarS cells t r) = .ok (.bl true) (jarS cells t' r') ∧ 0 ≤ t' ∧ t' ≤ t + 9 := by
  obtain ⟨x, t1, r1, e1, hx, h10, h11⟩ := c_take (cells := cells) (t := t) (r := r) (ns := [3, 2, 4, 1, 6, 8]) ht (by omega) (by decide) (by decide)
  obtain ⟨n, rfl, hn1, hn8⟩ : ∃ n : Nat, x = n ∧ 1 ≤ n ∧ n ≤ 8 := by
    simp only [List.mem_cons, List.not_mem_nil, or_false] at hx
    rcases hx with rfl | rfl | rfl | rfl | rfl | rfl
    · exact ⟨3, rfl, by decide, by decide⟩
    · exact ⟨2, rfl, by decide, by decide⟩
    · exact ⟨4, rfl, by decide, by decide⟩
    · exact ⟨1, rfl, by decide, by decide⟩
    · exact ⟨6, rfl, by decide, by decide⟩
    · exact ⟨8, rfl, by decide, by decide⟩
  obtain ⟨ns, t2, r2, e2, hl, hb, h20, h21⟩ := c_draws (cells := cells) (m := 13) (off := 6) (by decide) (by decide) (ρ := [some (.loc 0), none, none, none, none, none]) (i := 0) (j := 2) rfl (fun _ => rfl) n t1 h10 (by omega) r1 [] (by simp only [List.length_nil]; omega) 0
  have hb6 : bdN 6 ns := fun v hv => by have := hb v hv; omega
  have hW := wf_jar cells t2 r2
  obtain ⟨wh, y4, e3, hp⟩ := pr_loop hW (d := .loc 0) (N := .lst (iL ns)) ns [] [1] none Pro.start (by simp only [List.length_nil]; omega) hb6
  rw [List.nil_append] at hp e2
  have hw := hp.len
  have sm : ∀ m : Nat, m ≤ 15 → ∀ z ∈ pwL ns m, small z := fun m hm z hz => by
    obtain ⟨k, hk, rfl⟩ := List.mem_map.mp hz
    have hk := List.mem_range.mp hk
    refine small_of (B := 8 * 6 ^ 15) (Nat.le_trans (pw_bd hb6 k) (Nat.mul_le_mul (by omega) (Nat.pow_le_pow_right (by decide) (by omega)))) (by decide)
  have pl : ∀ m, (pwL ns m).length = m := fun m => by unfold pwL; rw [List.length_map, List.length_range]
  have nsm : ∀ z ∈ ns, small z := fun z hz => small_of (hb6 z hz) (by decide)
  have hqn : SqD (.lst (iL ns)) ns := .inl rfl
  have emany : (ns.length : Int) + 6 = ((ns.length + 6 : Nat) : Int) := by omega
  have eone : (ns.length : Int) + 1 = ((ns.length + 1 : Nat) : Int) := by omega
  have tr := c_pro_traces hW hp (by omega) (by omega) (many := ns.length + 6) (by omega) (by omega)
  have pw1 := c_powers hW nsm (by omega) (many := ns.length + 6) (by omega)
  have pw2 := c_powers hW nsm (by omega) (many := ns.length + 1) (by omega)
  have back := c_polynomial_from hW (d := .lst (iL (pwL ns (ns.length + 1)))) (ts := pwL ns (ns.length + 1)) (.inl rfl) (by rw [pl]; omega) (by rw [pl]; omega) (by rw [pl]; unfold pwL; rw [getD_range (by omega), pwS_zero]; omega) (sm _ (by omega))
  have ew : newR (pwL ns (ns.length + 1)) = some wh := by
    rw [← hw]
    exact newR_of hp.one hp.nw (by omega)
  rw [ew] at back
  have rep1 : ∀ S : Sto, kRepr S [.tup (iL (pwL ns (ns.length + 6)))] = some (.str (tupStr (pwL ns (ns.length + 6)))) := fun S => kRepr_tup S (sm _ (by omega)) (fun z => by have := congrArg List.length z; rw [pl] at this; cases this) (by rw [pl]; omega)
  have rep2 : ∀ S : Sto, kRepr S [.tup (iL wh)] = some (.str (tupStr wh)) := fun S => kRepr_tup S (hp.small (by omega)) (fun z => by rw [z] at hw; cases hw) (by omega)
  have ne : ∀ (S : Sto) (x : Str), PyData.strOk x = true → kNe S (.str x) (.str x) = some (.bl false) := fun S x h => by unfold kNe; rw [kEqB_str S h]; rfl
  have eq : ∀ (S : Sto) (x : Str), PyData.strOk x = true → kEq S (.str x) (.str x) = some (.bl true) := fun S x h => by unfold kEq; rw [kEqB_str S h]; rfl
  have it : iB kRange1 (qCons (eCall 2 m__law_take (qCons (eVar 0) (qCons (eFrz (fLst (qCons (eC (.int 3)) (qCons (eC (.int 2)) (qCons (eC (.int 4)) (qCons (eC (.int 1)) (qCons (eC (.int 6)) (qCons (eC (.int 8)) qNil)))))))) qNil))) qNil) (envOf 6 [.loc 0]) (jarS cells t r) = .ok (rng 0 n, []) (jarS cells t1 r1) :=
    v_iB (v_cons (v_call (v_cons v_var (v_cons (v_frz (v_lst (v_cons v_c (v_cons v_c (v_cons v_c (v_cons v_c (v_cons v_c (v_cons v_c v_nil)))))))) v_nil)) e1) v_nil) (kRange1_nat _ n (by omega))
  refine ⟨t2, r2, ?_, h20, by omega⟩
  refine run_rt ((w_seq (w_set (v_frz (v_lc it e2)))).trans ((w_seq (w_set (v_frz (v_lst (v_cons v_c v_nil))))).trans ((w_seq ((w_for (ds := iL ns) (src := []) (v_iSeq v_var rfl)).trans e3)).trans ((w_seq (w_set (v_op (b := .int 6) (v_B (v_cons v_var v_nil) (hqn.len _)) v_c (d := .int ((ns.length + 6 : Nat) : Int)) (by rw [← emany]; rfl)))).trans ((w_seq ((w_if0 (v_bOf (v_op (v_B (v_cons (v_call (v_cons v_var (v_cons v_var v_nil)) tr) v_nil) (rep1 _)) (v_B (v_cons (v_call (v_cons v_var (v_cons v_var v_nil)) pw1) v_nil) (rep1 _)) (ne _ _ (strOk_tup _))))).trans rfl)).trans
    (w_ret (v_op (v_B (v_cons (v_call (v_cons (v_frz (v_fB (es := iL (pwL ns (ns.length + 1))) (v_cons (v_call (v_cons v_var (v_cons (v_op (b := .int 1) (d := .int ((ns.length + 1 : Nat) : Int)) (v_B (v_cons v_var v_nil) (hqn.len _)) v_c (by rw [← eone]; rfl)) v_nil)) pw2) v_nil) rfl)) v_nil) back) v_nil) (rep2 _)) (v_B (v_cons (v_B (d := .tup (iL wh)) (v_cons v_var v_nil) rfl) v_nil) (rep2 _)) (eq _ _ (strOk_tup _))))))))) endBlJar
end
end M2

/-! P11: any polynomials -/
namespace M2
open PySem PySem.Spec PyProof.Rows L2

theorem nextL_nb {ns fs : List Int} {B : Nat} (hn : bdN 20 ns) (hf : bdN B fs) (hB : 1 ≤ B) (hfl : fs.length ≤ 7) : (nextL ns fs).natAbs ≤ 300 * B := by
  unfold nextL
  have h1 : (if fs.length < ns.length then (fs.length : Int) * ns.getD fs.length 0 else 0).natAbs ≤ 7 * 20 := by
    split
    · rw [Int.natAbs_mul]
      exact Nat.mul_le_mul (by omega) (bdN_get hn _)
    · exact Nat.zero_le _
  have h2 : (su (min fs.length ns.length - 1) fun i => ns.getD (1 + i) 0 * fs.getD (fs.length - (1 + i)) 0).natAbs ≤ (min fs.length ns.length - 1) * (20 * B) := su_nb _ fun i _ => by
    rw [Int.natAbs_mul]
    exact Nat.mul_le_mul (bdN_get hn _) (bdN_get hf _)
  have h3 : (min fs.length ns.length - 1) * (20 * B) ≤ 6 * (20 * B) := Nat.mul_le_mul_right _ (by omega)
  generalize (if fs.length < ns.length then (fs.length : Int) * ns.getD fs.length 0 else 0) = x at h1
  generalize (su (min fs.length ns.length - 1) fun i => ns.getD (1 + i) 0 * fs.getD (fs.length - (1 + i)) 0) = y at h2
  omega
theorem lenL_nb {ns : List Int} (hn : bdN 20 ns) : ∀ (m : Nat) (fs : List Int) (B : Nat), bdN B fs → 1 ≤ B → fs.length + m ≤ 8 → bdN (B * 300 ^ m) (lenL ns m fs)
  | 0, fs, B, h, _, _ => by rw [Nat.pow_zero, Nat.mul_one]; exact h
  | m + 1, fs, B, h, hB, hl => by
    have h2 : bdN (300 * B) (fs ++ [nextL ns fs]) := fun x hx => by
      rcases List.mem_append.mp hx with hx | hx
      · have := h x hx; omega
      · rw [List.mem_singleton.mp hx]
        exact nextL_nb hn h hB (by omega)
    have := lenL_nb hn m (fs ++ [nextL ns fs]) (300 * B) h2 (by omega) (by rw [List.length_append, List.length_singleton]; omega)
    rw [Nat.pow_succ, Nat.mul_comm (300 ^ m), ← Nat.mul_assoc, Nat.mul_comm B 300]
    exact this
/-- a polynomial that is drawn -/
structure Pol (p : List Int) : Prop where
  one : co p 0 = 1
  lo : 2 ≤ p.length
  hi : p.length ≤ 7
  bd : bdN 20 p
theorem Pol.sm {p : List Int} (h : Pol p) : ∀ x ∈ p, small x := fun x hx => small_of (h.bd x hx) (by decide)
theorem Pol.last {p : List Int} (h : Pol p) : p.getD (p.length - 1) 0 = 1 := by rw [← co_last (by have := h.lo; omega)]; exact h.one
theorem Pol.mk' {vs : List Int} (h1 : 1 ≤ vs.length) (h2 : vs.length ≤ 6) (b : bdN 20 vs) : Pol (vs ++ [1]) where
  one := by
    have e : (vs ++ [(1 : Int)]).length = vs.length + 1 := by simp
    rw [co_last (by omega), e, List.getD_eq_getElem?_getD, List.getElem?_append_right (by omega)]
    simp
  lo := by simp; omega
  hi := by simp; omega
  bd := fun x hx => by
    rcases List.mem_append.mp hx with hx | hx
    · exact b x hx
    · rw [List.mem_singleton.mp hx]; decide
theorem Pol.trsm {p : List Int} (h : Pol p) : ∀ x ∈ trL p p.length, small x := fun x hx => by
  have hi := h.hi
  have lo := h.lo
  have b := lenL_nb (ns := p.reverse) (fun y hy => h.bd y (List.mem_reverse.mp hy)) (p.length - 1) [(p.length : Int) - 1] 6 (fun y hy => by rw [List.mem_singleton.mp hy]; omega) (by decide) (by rw [List.length_singleton]; omega) x hx
  exact small_of (Nat.le_trans b (Nat.mul_le_mul_left 6 (Nat.pow_le_pow_right (by decide) (show p.length - 1 ≤ 6 by omega)))) (by decide)
section
variable {S : Sto}
theorem c_pol_traces (hS : Wf S) {d : D} {p : List Int} (hd : SqD d p) (h2 : 2 ≤ p.length) (h25 : p.length ≤ 25) (h1 : co p 0 = 1) (hs : ∀ x ∈ p, small x) {many : Nat} (hm : 1 ≤ many) (hm2 : many ≤ 100) : m_traces_from [d, .int many] S = .ok (.tup (iL (trL p many))) S :=
  c_traces_from hS hd h2 h25 (by rw [← co_last (by omega)]; exact h1) hm2 hm fun a ha b _ => mulOk_l (hs a ha)
theorem c_pol_back (hS : Wf S) {p : List Int} (h : Pol p) : m_polynomial_from [.tup (iL (trL p p.length))] S = .ok (.tup (iL p)) S := by
  have lo := h.lo
  have hi := h.hi
  have pl := trL_length (p := p) (many := p.length) (by omega)
  have e : newR (trL p p.length) = some p := by
    rw [trL_map p (by omega)]
    exact newR_of h.one (trS_newt h.one) (by omega)
  have b := c_polynomial_from hS (d := .tup (iL (trL p p.length))) (ts := trL p p.length) (.inr rfl) (by rw [pl]; omega) (by rw [pl]; omega) (by rw [pl, trL_map p (by omega), getD_range (by omega)]; rfl) h.trsm
  rw [e] at b
  exact b
noncomputable abbrev anB : Blk := bIf (bOf (eOp kNe (eCall 1 m_polynomial_from (qCons (eCall 2 m_traces_from (qCons (eVar 4) (qCons (eB kLen (qCons (eVar 4) qNil)) qNil))) qNil)) (eB kTuple (qCons (eVar 4) qNil)))) (bRet (eC (.bl false))) bNil
theorem an_body (hS : Wf S) {p : List Int} (h : Pol p) {a b c x : D} : anB [some a, some b, none, some c, some (.lst (iL p)), none, none, none, none, none] S = .nx [some a, some b, none, some c, some (.lst (iL p)), none, none, none, none, none] S := by
  have hq : SqD (.lst (iL p)) p := .inl rfl
  have lo := h.lo
  have hi := h.hi
  refine (w_if0 (v_bOf (v_op (v_call (v_cons (v_call (v_cons v_var (v_cons (v_B (v_cons v_var v_nil) (hq.len _)) v_nil)) (c_pol_traces hS hq h.lo (by omega) h.one h.sm (by omega) (by omega))) v_nil) (c_pol_back hS h)) (v_B (d := .tup (iL p)) (v_cons v_var v_nil) rfl) ((kNe_tup _ _ _).trans ?_)))).trans rfl
  rw [decide_eq_true rfl]; rfl
end
def gAd : D → D
  | .tup [.int a, .int b] => .int (a + b)
  | _ => .non
theorem zip_ad (f g : Nat → Int) : ∀ l : List Nat, (zipD (iL (l.map f)) (iL (l.map g))).map gAd = iL (l.map fun k => f k + g k)
  | [] => rfl
  | k :: l => by
    show D.int (f k + g k) :: _ = _
    rw [zip_ad f g l]; rfl
theorem kCat_iL (S : Sto) {a b : List Int} (h : a.length + b.length ≤ 1000) : kCat S (.lst (iL a)) (.lst (iL b)) = some (iL (a ++ b)) := by
  show (if (iL a).length + (iL b).length ≤ sizeLine then some (iL a ++ iL b) else none) = _
  rw [if_pos (by rw [List.length_map, List.length_map, sizeLine_eq]; omega)]
  show some (List.map D.int a ++ List.map D.int b) = some (List.map D.int (a ++ b))
  rw [List.map_append]
section
variable {cells : List Int} {t r : Int}
/-- a polynomial drawn -/
theorem c_drawn {m off : Int} (hm : 1 ≤ m) (hm2 : m ≤ 1000) (hoff : off ≤ 20) (hoff2 : m - off ≤ 21) {c : Int} (hc : 1 ≤ c) (hc2 : c ≤ 6) {ρ : Env} (h0 : ρ[0]? = some (some (.loc 0))) (hj : ((wipeE ρ [2]).set 2 (some .non)).length = (wipeE ρ [2]).length) (hw : ∀ y, ((wipeE ρ [2]).set 2 y)[0]? = some (some (.loc 0))) (ht : 0 ≤ t) (hT : t ≤ 50000) :
    ∃ (vs : List Int) (t' r' : Int), eFrz (fOp kCat (eFrz (fLc (iB kRange1 (qCons (eOp kAdd (eC (.int 1)) (eCall 2 m__law_lot (qCons (eVar 0) (qCons (eC (.int c)) qNil)))) qNil)) (.nm 2) tYesB (eOp kSub (eCall 2 m__law_lot (qCons (eVar 0) (qCons (eC (.int m)) qNil))) (eC (.int off))) [2])) (eFrz (fLst (qCons (eC (.int 1)) qNil)))) ρ (jarS cells t r) = .ok (.lst (iL (vs ++ [1]))) (jarS cells t' r') ∧
      1 ≤ vs.length ∧ vs.length ≤ c ∧ (∀ v ∈ vs, -off ≤ v ∧ v < m - off) ∧ 0 ≤ t' ∧ t' ≤ t + 7 := by
  obtain ⟨v, t1, r1, e1, v0, v1, h10, h11⟩ := c_lot (cells := cells) (t := t) (r := r) (m := c) ht (by omega) hc (by omega)
  obtain ⟨n, en⟩ : ∃ n : Nat, (1 : Int) + v = n := ⟨(1 + v).toNat, by omega⟩
  obtain ⟨vs, t2, r2, e2, hl, hb, h20, h21⟩ := c_draws (cells := cells) (m := m) (off := off) hm hm2 (ρ := wipeE ρ [2]) (i := 0) (j := 2) hj hw n t1 h10 (by omega) r1 [] (by simp only [List.length_nil]; omega) 0
  rw [List.nil_append] at e2
  refine ⟨vs, t2, r2, ?_, by omega, by omega, hb, h20, by omega⟩
  have it : iB kRange1 (qCons (eOp kAdd (eC (.int 1)) (eCall 2 m__law_lot (qCons (eVar 0) (qCons (eC (.int c)) qNil)))) qNil) ρ (jarS cells t r) = .ok (rng 0 n, []) (jarS cells t1 r1) :=
    v_iB (v_cons (v_op (d := .int n) v_c (v_call (v_cons (v_var h0) (v_cons v_c v_nil)) e1) (by rw [← en]; rfl)) v_nil) (kRange1_nat _ n (by omega))
  exact v_frz (v_fOp (v_frz (v_lc it e2)) (v_frz (v_lst (v_cons v_c v_nil))) (kCat_iL _ (b := [1]) (by rw [List.length_singleton]; omega)))
theorem c_any (ht : 0 ≤ t) (hT : t ≤ 40000) : ∃ t' r', m__law_any_right [.loc 0] (jarS cells t r) = .ok (.bl true) (jarS cells t' r') ∧ 0 ≤ t' ∧ t' ≤ t + 14 := by
  obtain ⟨v1, t1, r1, e1, l1, l1', b1, h10, h11⟩ := c_drawn (cells := cells) (t := t) (r := r) (m := 41) (off := 20) (c := 6) (by decide) (by decide) (by decide) (by decide) (by decide) (by decide) (ρ := envOf 10 [.loc 0]) rfl rfl (fun _ => rfl) ht (by omega)
  have P1 : Pol (v1 ++ [1]) := Pol.mk' l1 (by omega) fun x hx => by have := b1 x hx; omega
  generalize hone : v1 ++ [1] = one at e1 P1
  obtain ⟨v2, t2, r2, e2, l2, l2', b2, h20, h21⟩ := c_drawn (cells := cells) (t := t1) (r := r1) (m := 9) (off := 4) (c := 4) (by decide) (by decide) (by decide) (by decide) (by decide) (by decide) (ρ := [some (.loc 0), some (.lst (iL one)), none, none, none, none, none, none, none, none]) rfl rfl (fun _ => rfl) h10 (by omega)
  have P2 : Pol (v2 ++ [1]) := Pol.mk' l2 (by omega) fun x hx => by have := b2 x hx; omega
  have len2 : (v2 ++ [(1 : Int)]).length ≤ 5 := by simp; omega
  have bd2 : bdN 4 (v2 ++ [1]) := fun x hx => by
    rcases List.mem_append.mp hx with hx | hx
    · have := b2 x hx; omega
    · rw [List.mem_singleton.mp hx]; decide
  generalize hother : v2 ++ [1] = other at e2 P2 len2 bd2
  have hW := wf_jar cells t2 r2
  have q1 : SqD (.lst (iL one)) one := .inl rfl
  have q2 : SqD (.lst (iL other)) other := .inl rfl
  have lo1 := P1.lo
  have hi1 := P1.hi
  have lo2 := P2.lo
  have bl : (tmL one other).length = one.length + other.length - 1 := tmP_length _ _ _ _
  have bone : co (tmL one other) 0 = 1 := co_mul0 (by omega) (by omega) P1.one P2.one
  have bsm : ∀ x ∈ tmL one other, small x := fun x hx => small_of (B := 7 * (5 * (20 * 4))) (Nat.le_trans (tm_bd P1.bd bd2 x hx) (Nat.mul_le_mul hi1 (Nat.mul_le_mul_right _ len2))) (by decide)
  have bnw : Newt (co (tmL one other)) fun k => trS one k + trS other k := by
    rw [co_mul (by omega) (by omega)]
    exact newt_mul (trS_newt P1.one) (trS_newt P2.one)
  have btr : ∀ m, 1 ≤ m → trL (tmL one other) m = (List.range m).map fun k => trS one k + trS other k := fun m hm => trL_of bone bnw (by
    show ((one.length : Int) - 1) + ((other.length : Int) - 1) = _
    rw [bl]; omega) hm
  generalize hM : one.length + other.length + 3 = M
  have eM : (one.length : Int) + (other.length : Int) + 3 = (M : Int) := by omega
  have eM4 : (M : Int) - 4 = ((M - 4 : Nat) : Int) := by omega
  have lp : forL [] (.nm 4) anB [.lst (iL one), .lst (iL other)] [some (.loc 0), some (.lst (iL one)), none, some (.lst (iL other)), none, none, none, none, none, none] (jarS cells t2 r2) = .nx [some (.loc 0), some (.lst (iL one)), none, some (.lst (iL other)), some (.lst (iL other)), none, none, none, none, none] (jarS cells t2 r2) := by
    refine (forL_cons srcs0 rfl).trans ?_
    show (match anB [some (.loc 0), some (.lst (iL one)), none, some (.lst (iL other)), some (.lst (iL one)), none, none, none, none, none] (jarS cells t2 r2) with
        | .nx ρ2 S2 => forL [] (.nm 4) anB [.lst (iL other)] ρ2 S2
        | .ct ρ2 S2 => forL [] (.nm 4) anB [.lst (iL other)] ρ2 S2
        | .bk ρ2 S2 => Flow.nx ρ2 S2
        | r => r) = _
    rw [an_body hW P1 (x := .non)]
    refine (forL_cons srcs0 rfl).trans ?_
    show (match anB [some (.loc 0), some (.lst (iL one)), none, some (.lst (iL other)), some (.lst (iL other)), none, none, none, none, none] (jarS cells t2 r2) with
        | .nx ρ2 S2 => forL [] (.nm 4) anB [] ρ2 S2
        | .ct ρ2 S2 => forL [] (.nm 4) anB [] ρ2 S2
        | .bk ρ2 S2 => Flow.nx ρ2 S2
        | r => r) = _
    rw [an_body hW P2 (x := .non)]
    rfl
  have T1 := c_pol_traces hW q1 lo1 (by omega) P1.one P1.sm (many := M) (by omega) (by omega)
  have T2 := c_pol_traces hW q2 lo2 (by omega) P2.one P2.sm (many := M) (by omega) (by omega)
  have T3 := c_pol_traces hW (d := .lst (iL (tmL one other))) (.inl rfl) (by omega) (by omega) bone bsm (many := M) (by omega) (by omega)
  have T4 := c_pol_traces hW (d := .tup (iL (tmL one other))) (.inr rfl) (by omega) (by omega) bone bsm (many := M - 4) (by omega) (by omega)
  rw [trL_map one (by omega)] at T1
  rw [trL_map other (by omega)] at T2
  rw [btr M (by omega)] at T3
  rw [btr (M - 4) (by omega)] at T4
  have tm := c_times hW P1.sm (b := other) (by omega) (by omega) (by omega)
  have cut : kSlT (.tup (iL ((List.range M).map fun k => trS one k + trS other k))) none (some ((M - 4 : Nat) : Int)) = some (.tup (iL ((List.range (M - 4)).map fun k => trS one k + trS other k))) := by
    have el : (iL ((List.range M).map fun k => trS one k + trS other k)).length = M := by rw [List.length_map, List.length_map, List.length_range]
    have es : HT.sIx M M (some ((M - 4 : Nat) : Int)) = M - 4 := by rw [HT.sIx_nat]; omega
    show (if HT.sIx (iL ((List.range M).map fun k => trS one k + trS other k)).length 0 none = 0 ∧ HT.sIx (iL ((List.range M).map fun k => trS one k + trS other k)).length (iL ((List.range M).map fun k => trS one k + trS other k)).length (some ((M - 4 : Nat) : Int)) = (iL ((List.range M).map fun k => trS one k + trS other k)).length then none else some (D.tup (cutD (iL ((List.range M).map fun k => trS one k + trS other k)) none (some ((M - 4 : Nat) : Int))))) = _
    rw [el, es, if_neg (by omega)]
    unfold cutD
    rw [el, es]
    show some (D.tup ((List.map D.int ((List.range M).map fun k => trS one k + trS other k)).take (M - 4 - 0))) = _
    rw [← List.map_take, ← List.map_take, List.take_range, show min (M - 4 - 0) M = M - 4 from by omega]
  refine ⟨t2, r2, ?_, h20, by omega⟩
  refine run_rt ((w_seq (w_set e1)).trans ((w_seq (w_set e2)).trans ((w_seq ((w_for (ds := [.lst (iL one), .lst (iL other)]) (src := []) (v_iSeq (v_tup (v_cons v_var (v_cons v_var v_nil))) rfl)).trans lp)).trans ((w_seq (w_par (v_cons (v_call (v_cons v_var (v_cons v_var v_nil)) tm) (v_cons (v_op (d := .int M) (b := .int 3) (v_op (v_B (v_cons v_var v_nil) (q1.len _)) (v_B (v_cons v_var v_nil) (q2.len _)) rfl) v_c (by rw [← eM]; rfl)) v_nil)))).trans ((w_seq (w_set (d := .tup (iL ((List.range M).map fun k => trS one k + trS other k))) (v_B (v_cons (v_frz (v_lc (ds := zipD (iL ((List.range M).map (trS one))) (iL ((List.range M).map (trS other)))) (src := []) (v_iB (v_cons (v_call (v_cons v_var (v_cons v_var v_nil)) T1) (v_cons (v_call (v_cons v_var (v_cons v_var v_nil)) T2) v_nil)) rfl) ((lcL_map gAd srcs0 _ [] (fun y hy => ?_) ?_).trans (by rw [zip_ad, List.nil_append])))) v_nil) rfl))).trans
    (w_ret (v_and1 (v_op (v_call (v_cons v_var (v_cons v_var v_nil)) T3) v_var ((kEq_tup _ _ _).trans (by rw [decide_eq_true rfl]))) (v_op (v_call (v_cons (v_B (v_cons v_var v_nil) rfl) (v_cons (v_op (d := .int ((M - 4 : Nat) : Int)) (b := .int 4) v_var v_c (by rw [← eM4]; rfl)) v_nil)) T4) (v_slT v_var v_no (v_end (v_op (b := .int 4) v_var v_c (by rw [← eM4]; rfl))) cut) ((kEq_tup _ _ _).trans (by rw [decide_eq_true rfl]))))))))))  endBlJar
  · obtain ⟨a, b, rfl, _, _⟩ := mem_zip _ _ y hy
    exact ⟨_, rfl, v_op v_var v_var rfl⟩
  · rw [zipD_length, List.length_map, List.length_map, List.length_map, List.length_map, List.length_range]; exact sz (by simp only [List.length_nil]; omega)
end
end M2

/-! P12: two and three numbers -/
namespace M2
open PySem PySem.Spec PyProof.Rows L2

theorem fd1 (a : Int) : a.fdiv 1 = a := by simp
theorem fm1 (a : Int) : a.fmod 1 = 0 := by simp
theorem fm_e (a : Int) {m : Int} (h : 0 ≤ m) : a.fmod m = a % m := Int.fmod_eq_emod_of_nonneg a h
theorem fd_e (a : Int) {m : Int} (h : 0 ≤ m) : a.fdiv m = a / m := Int.fdiv_eq_ediv_of_nonneg a h
theorem newR2 (a : Int) : newR [1, a] = some [-a, 1] := by
  have e : tot [1, a] [1] = a := by show a * 1 + 0 = a; omega
  show (if (tot [1, a] [1]).fmod ((1 : Nat) : Int) = 0 then newL [1, a] 0 ([1] ++ [(-(tot [1, a] [1])).fdiv ((1 : Nat) : Int)]) else none).map List.reverse = _
  rw [e, if_pos (show a.fmod ((1 : Nat) : Int) = 0 from fm1 a), show (-a).fdiv ((1 : Nat) : Int) = -a from fd1 _]; rfl
theorem newR3 (a b : Int) : newR [2, a, b] = if (b - a * a) % 2 = 0 then some [-((b - a * a) / 2), -a, 1] else none := by
  have e1 : tot [2, a, b] [1] = a := by show a * 1 + 0 = a; omega
  have e2 : tot [2, a, b] [1, -a] = b - a * a := by
    show b * 1 + (a * -a + 0) = b - a * a
    rw [Int.mul_neg]; omega
  show (if (tot [2, a, b] [1]).fmod ((1 : Nat) : Int) = 0 then newL [2, a, b] 1 ([1] ++ [(-(tot [2, a, b] [1])).fdiv ((1 : Nat) : Int)]) else none).map List.reverse = _
  rw [e1, if_pos (show a.fmod ((1 : Nat) : Int) = 0 from fm1 a), show (-a).fdiv ((1 : Nat) : Int) = -a from fd1 _]
  show (if (tot [2, a, b] [1, -a]).fmod ((2 : Nat) : Int) = 0 then newL [2, a, b] 0 ([1, -a] ++ [(-(tot [2, a, b] [1, -a])).fdiv ((2 : Nat) : Int)]) else none).map List.reverse = _
  rw [e2, show (b - a * a).fmod ((2 : Nat) : Int) = (b - a * a) % 2 from fm_e _ (by decide), show (-(b - a * a)).fdiv ((2 : Nat) : Int) = (-(b - a * a)) / 2 from fd_e _ (by decide)]
  by_cases h : (b - a * a) % 2 = 0
  · rw [if_pos h, if_pos h]
    show some [(-(b - a * a)) / 2, -a, 1] = _
    rw [show (-(b - a * a)) / 2 = -((b - a * a) / 2) from by omega]
  · rw [if_neg h, if_neg h]; rfl
theorem newR4 (a b c : Int) : newR [3, a, b, c] = if (b - a * a) % 2 = 0 then (if (c - b * a - a * ((b - a * a) / 2)) % 3 = 0 then some [-((c - b * a - a * ((b - a * a) / 2)) / 3), -((b - a * a) / 2), -a, 1] else none) else none := by
  have e1 : tot [3, a, b, c] [1] = a := by show a * 1 + 0 = a; omega
  have e2 : tot [3, a, b, c] [1, -a] = b - a * a := by
    show b * 1 + (a * -a + 0) = b - a * a
    rw [Int.mul_neg]; omega
  show (if (tot [3, a, b, c] [1]).fmod ((1 : Nat) : Int) = 0 then newL [3, a, b, c] 2 ([1] ++ [(-(tot [3, a, b, c] [1])).fdiv ((1 : Nat) : Int)]) else none).map List.reverse = _
  rw [e1, if_pos (show a.fmod ((1 : Nat) : Int) = 0 from fm1 a), show (-a).fdiv ((1 : Nat) : Int) = -a from fd1 _]
  show (if (tot [3, a, b, c] [1, -a]).fmod ((2 : Nat) : Int) = 0 then newL [3, a, b, c] 1 ([1, -a] ++ [(-(tot [3, a, b, c] [1, -a])).fdiv ((2 : Nat) : Int)]) else none).map List.reverse = _
  rw [e2, show (b - a * a).fmod ((2 : Nat) : Int) = (b - a * a) % 2 from fm_e _ (by decide), show (-(b - a * a)).fdiv ((2 : Nat) : Int) = (-(b - a * a)) / 2 from fd_e _ (by decide)]
  by_cases h : (b - a * a) % 2 = 0
  · rw [if_pos h, if_pos h, show (-(b - a * a)) / 2 = -((b - a * a) / 2) from by omega]
    generalize hh : (b - a * a) / 2 = q
    have e3 : tot [3, a, b, c] [1, -a, -q] = c - b * a - a * q := by
      show c * 1 + (b * -a + (a * -q + 0)) = _
      rw [Int.mul_neg, Int.mul_neg]; omega
    show (if (tot [3, a, b, c] [1, -a, -q]).fmod ((3 : Nat) : Int) = 0 then newL [3, a, b, c] 0 ([1, -a, -q] ++ [(-(tot [3, a, b, c] [1, -a, -q])).fdiv ((3 : Nat) : Int)]) else none).map List.reverse = _
    rw [e3, show (c - b * a - a * q).fmod ((3 : Nat) : Int) = (c - b * a - a * q) % 3 from fm_e _ (by decide), show (-(c - b * a - a * q)).fdiv ((3 : Nat) : Int) = (-(c - b * a - a * q)) / 3 from fd_e _ (by decide)]
    by_cases h3 : (c - b * a - a * q) % 3 = 0
    · rw [if_pos h3, if_pos h3]
      show some [(-(c - b * a - a * q)) / 3, -q, -a, 1] = _
      rw [show (-(c - b * a - a * q)) / 3 = -((c - b * a - a * q) / 3) from by omega]
    · rw [if_neg h3, if_neg h3]; rfl
  · rw [if_neg h, if_neg h]; rfl
/-- what is heard of newton -/
def heD (ts : List Int) : D := match newR ts with
  | some p => .tup (iL p)
  | none => .str "traces"
theorem heard_of {S : Sto} {ts : List Int} {res : Res D} (h : res = (match newR ts with
      | some p => .ok (.tup (iL p)) S
      | none => .err misfit S)) : heardR res = .ok (heD ts) S := by
  subst h
  unfold heD
  cases newR ts with
  | none => rfl
  | some p => rfl
theorem v_heard {f : Env → M D} {ρ : Env} {S S1 : Sto} {ts : List Int} {res : Res D} (e : f ρ S = res) (h : res = (match newR ts with
      | some p => .ok (.tup (iL p)) S1
      | none => .err misfit S1)) : eHeard f ρ S = .ok (heD ts) S1 := by
  unfold eHeard
  rw [e]
  exact heard_of h
theorem eqS (S : Sto) : kEq S (.str "traces") (.str "traces") = some (.bl true) := by unfold kEq; rw [kEqB_str S (strOk_ofString _)]; rfl
theorem neS (S : Sto) : kNe S (.str "traces") (.str "traces") = some (.bl false) := by unfold kNe; rw [kEqB_str S (strOk_ofString _)]; rfl
theorem eqT (S : Sto) (l : List Int) : kEq S (.tup (iL l)) (.tup (iL l)) = some (.bl true) := by rw [kEq_tup, decide_eq_true rfl]
theorem neT (S : Sto) (l : List Int) : kNe S (.tup (iL l)) (.tup (iL l)) = some (.bl false) := by rw [kNe_tup, decide_eq_true rfl]; rfl
section
variable {cells : List Int} {t r : Int}
theorem c_few (ht : 0 ≤ t) (hT : t ≤ 40000) : ∃ t' r', m__law_few_right [.loc 0] (jarS cells t r) = .ok (.bl true) (jarS cells t' r') ∧ 0 ≤ t' ∧ t' ≤ t + 3 := by
  obtain ⟨v1, t1, r1, e1, a1, a2, h10, h11⟩ := c_lot (cells := cells) (t := t) (r := r) (m := 9) ht (by omega) (by decide) (by decide)
  obtain ⟨v2, t2, r2, e2, b1, b2, h20, h21⟩ := c_lot (cells := cells) (t := t1) (r := r1) (m := 19) h10 (by omega) (by decide) (by decide)
  obtain ⟨v3, t3, r3, e3, c1, c2, h30, h31⟩ := c_lot (cells := cells) (t := t2) (r := r2) (m := 41) h20 (by omega) (by decide) (by decide)
  have hW := wf_jar cells t3 r3
  generalize ha : v1 - 4 = a
  generalize hb : v2 - 9 = b
  generalize hc : v3 - 20 = c
  have sa : small a := ⟨by omega, by omega⟩
  have sb : small b := ⟨by omega, by omega⟩
  have sc : small c := ⟨by omega, by omega⟩
  have mr : ∀ {i j : Int} (S : Sto), small j → kMul S (.int i) (.int j) = some (.int (i * j)) := fun S h => kMul_int S (mulOk_r h)
  generalize hs : a * a - b = s
  generalize hth : a * a * a - 3 * a * b + 2 * c = th
  -- the own rule
  have par : ∀ S : Sto, kMod S (.int s) (.int 2) = some (.int (s.fmod 2)) := fun S => kMod_pos S s (by decide)
  have thr : ∀ S : Sto, kMod S (.int th) (.int 6) = some (.int (th.fmod 6)) := fun S => kMod_pos S th (by decide)
  have s2 : s.fmod 2 = s % 2 := fm_e _ (by decide)
  have t6 : th.fmod 6 = th % 6 := fm_e _ (by decide)
  have sd : s.fdiv 2 = s / 2 := fd_e _ (by decide)
  have td : th.fdiv 6 = th / 6 := fd_e _ (by decide)
  have hbs : b - a * a = -s := by omega
  have p1 := c_polynomial_from hW (d := .lst (iL [2, a, b])) (ts := [2, a, b]) (.inl rfl) (by simp) (by simp) rfl (fun x hx => by
    simp only [List.mem_cons, List.not_mem_nil, or_false] at hx
    rcases hx with rfl | rfl | rfl
    · exact ⟨by decide, by decide⟩
    · exact sa
    · exact sb)
  have p2 := c_polynomial_from hW (d := .lst (iL [3, a, b, c])) (ts := [3, a, b, c]) (.inl rfl) (by simp) (by simp) rfl (fun x hx => by
    simp only [List.mem_cons, List.not_mem_nil, or_false] at hx
    rcases hx with rfl | rfl | rfl | rfl
    · exact ⟨by decide, by decide⟩
    · exact sa
    · exact sb
    · exact sc)
  have p3 := c_polynomial_from hW (d := .tup (iL [1, a])) (ts := [1, a]) (.inr rfl) (by simp) (by simp) rfl (fun x hx => by
    simp only [List.mem_cons, List.not_mem_nil, or_false] at hx
    rcases hx with rfl | rfl
    · exact ⟨by decide, by decide⟩
    · exact sa)
  rw [newR2] at p3
  have asg : bAsg (.tp [(.nm 1), (.nm 2), (.nm 3)]) (eTup (qCons (eOp kSub (eCall 2 m__law_lot (qCons (eVar 0) (qCons (eC (.int 9)) qNil))) (eC (.int 4))) (qCons (eOp kSub (eCall 2 m__law_lot (qCons (eVar 0) (qCons (eC (.int 19)) qNil))) (eC (.int 9))) (qCons (eOp kSub (eCall 2 m__law_lot (qCons (eVar 0) (qCons (eC (.int 41)) qNil))) (eC (.int 20))) qNil)))) (envOf 8 [.loc 0]) (jarS cells t r) = .nx [some (.loc 0), some (.int a), some (.int b), some (.int c), none, none, none, none] (jarS cells t3 r3) := by
    rw [← ha, ← hb, ← hc]
    exact w_asg (v_tup (v_cons (v_op (v_call (v_cons v_var (v_cons v_c v_nil)) e1) v_c rfl) (v_cons (v_op (v_call (v_cons v_var (v_cons v_c v_nil)) e2) v_c rfl) (v_cons (v_op (v_call (v_cons v_var (v_cons v_c v_nil)) e3) v_c rfl) v_nil)))) rfl
  have pr : bPar 4 5 (qCons (eOp kSub (eOp kMul (eVar 1) (eVar 1)) (eVar 2)) (qCons (eOp kAdd (eOp kSub (eOp kMul (eOp kMul (eVar 1) (eVar 1)) (eVar 1)) (eOp kMul (eOp kMul (eC (.int 3)) (eVar 1)) (eVar 2))) (eOp kMul (eC (.int 2)) (eVar 3))) qNil)) [some (.loc 0), some (.int a), some (.int b), some (.int c), none, none, none, none] (jarS cells t3 r3) = .nx [some (.loc 0), some (.int a), some (.int b), some (.int c), some (.int s), some (.int th), none, none] (jarS cells t3 r3) := by
    rw [← hs, ← hth]
    exact w_par (v_cons (v_op (v_op v_var v_var (mr _ sa)) v_var rfl) (v_cons (v_op (v_op (v_op (v_op v_var v_var (mr _ sa)) v_var (mr _ sa)) (v_op (v_op v_c v_var (mr _ sa)) v_var (mr _ sb)) rfl) (v_op v_c v_var (mr _ sc)) rfl) v_nil))
  -- the first due
  have due1 : bSet 6 (eIf (bOf (eOp kEq (eOp kMod (eB kInt (qCons (eVar 4) qNil)) (eC (.int 2))) (eC (.int 0)))) (eTup (qCons (eB kInt (qCons (eOp kFdiv (eVar 4) (eC (.int 2))) qNil)) (qCons (eUn kNeg (eVar 1)) (qCons (eC (.int 1)) qNil)))) (eC (.str "traces"))) [some (.loc 0), some (.int a), some (.int b), some (.int c), some (.int s), some (.int th), none, none] (jarS cells t3 r3) = .nx [some (.loc 0), some (.int a), some (.int b), some (.int c), some (.int s), some (.int th), some (heD [2, a, b]), none] (jarS cells t3 r3) := by
    unfold heD
    rw [newR3, hbs]
    by_cases h : s % 2 = 0
    · rw [if_pos (show (-s) % 2 = 0 by omega)]
      refine w_set (v_if1 (v_bOf (v_op (v_op (v_B (v_cons v_var v_nil) rfl) v_c (par _)) v_c ((kEq_int _ _ _).trans ?_))) (v_tup (ds := [.int (-(-s / 2)), .int (-a), .int 1]) (v_cons (v_B (v_cons (d := .int (-(-s / 2))) (v_op v_var v_c ((kFdiv_pos _ s (by decide) (by decide)).trans ?_)) v_nil) rfl) (v_cons (v_un v_var rfl) (v_cons v_c v_nil)))))
      · rw [s2, decide_eq_true h]
      · rw [sd, show s / 2 = -(-s / 2) from by omega]
    · rw [if_neg (show ¬ (-s) % 2 = 0 by omega)]
      refine w_set (v_if0 (v_bOf (v_op (v_op (v_B (v_cons v_var v_nil) rfl) v_c (par _)) v_c ((kEq_int _ _ _).trans ?_))) v_c)
      rw [s2, decide_eq_false h]
  have neH : ∀ (S : Sto) (ts : List Int), kNe S (heD ts) (heD ts) = some (.bl false) := fun S ts => by
    unfold heD
    cases newR ts with
    | none => exact neS S
    | some p => exact neT S p
  have eqH : ∀ (S : Sto) (ts : List Int), kEq S (heD ts) (heD ts) = some (.bl true) := fun S ts => by
    unfold heD
    cases newR ts with
    | none => exact eqS S
    | some p => exact eqT S p
  have chk : bIf (bOr (bOf (eOp kNe (eHeard (eCall 1 m_polynomial_from (qCons (eFrz (fLst (qCons (eC (.int 2)) (qCons (eVar 1) (qCons (eVar 2) qNil))))) qNil))) (eVar 6))) (bOf (eOp kNe (eCall 1 m_polynomial_from (qCons (eTup (qCons (eC (.int 1)) (qCons (eVar 1) qNil))) qNil)) (eTup (qCons (eUn kNeg (eVar 1)) (qCons (eC (.int 1)) qNil)))))) (bRet (eC (.bl false))) bNil [some (.loc 0), some (.int a), some (.int b), some (.int c), some (.int s), some (.int th), some (heD [2, a, b]), none] (jarS cells t3 r3) = .nx [some (.loc 0), some (.int a), some (.int b), some (.int c), some (.int s), some (.int th), some (heD [2, a, b]), none] (jarS cells t3 r3) :=
    (w_if0 (v_bOr0 (v_bOf (v_op (v_heard (v_call (v_cons (v_frz (v_lst (v_cons v_c (v_cons v_var (v_cons v_var v_nil))))) v_nil) rfl) p1) v_var (neH _ _))) (v_bOf (v_op (v_call (v_cons (v_tup (v_cons v_c (v_cons v_var v_nil))) v_nil) p3) (v_tup (v_cons (v_un v_var rfl) (v_cons v_c v_nil))) (neT _ [-a, 1]))))).trans rfl
  -- the second due
  have due2 : ∃ is : Bool, bSeq (bSet 7 (eAnd (eOp kEq (eOp kMod (eB kInt (qCons (eVar 4) qNil)) (eC (.int 2))) (eC (.int 0))) (eOp kEq (eOp kMod (eB kInt (qCons (eVar 5) qNil)) (eC (.int 6))) (eC (.int 0))))) (bSet 6 (eIf (bOf (eVar 7)) (eTup (qCons (eUn kNeg (eB kInt (qCons (eOp kFdiv (eVar 5) (eC (.int 6))) qNil))) (qCons (eB kInt (qCons (eOp kFdiv (eVar 4) (eC (.int 2))) qNil)) (qCons (eUn kNeg (eVar 1)) (qCons (eC (.int 1)) qNil))))) (eC (.str "traces")))) [some (.loc 0), some (.int a), some (.int b), some (.int c), some (.int s), some (.int th), some (heD [2, a, b]), none] (jarS cells t3 r3) = .nx [some (.loc 0), some (.int a), some (.int b), some (.int c), some (.int s), some (.int th), some (heD [3, a, b, c]), some (.bl is)] (jarS cells t3 r3) := by
    have he : heD [3, a, b, c] = (match newR [3, a, b, c] with
      | some p => .tup (iL p)
      | none => .str "traces") := rfl
    rw [newR4, hbs] at he
    by_cases h : s % 2 = 0
    · rw [if_pos (show (-s) % 2 = 0 by omega)] at he
      generalize hq : (-s) / 2 = q at he
      generalize hu : c - b * a - a * q = u at he
      have h2u : th = 2 * u := by
        have x1 : a * (2 * q) = 2 * (a * q) := by rw [← Int.mul_assoc, Int.mul_comm a 2, Int.mul_assoc]
        have x2 : 2 * q = b - a * a := by omega
        have x3 : a * (b - a * a) = a * b - a * a * a := by rw [Int.mul_sub, Int.mul_assoc]
        have x4 : 3 * a * b = 3 * (a * b) := Int.mul_assoc _ _ _
        have x5 : b * a = a * b := Int.mul_comm _ _
        rw [x2, x3] at x1
        rw [← hth, ← hu, x4, x5]
        omega
      by_cases h6 : th % 6 = 0
      · rw [if_pos (show u % 3 = 0 by omega)] at he
        rw [he]
        refine ⟨true, (w_seq (w_set (d := .bl true) (v_and1 (v_op (v_op (v_B (v_cons v_var v_nil) rfl) v_c (par _)) v_c ((kEq_int _ _ _).trans ?_)) (v_op (v_op (v_B (v_cons v_var v_nil) rfl) v_c (thr _)) v_c ((kEq_int _ _ _).trans ?_))))).trans (w_set (v_if1 (v_bOf v_var) (v_tup (ds := [.int (-(u / 3)), .int (-q), .int (-a), .int 1]) (v_cons (v_un (a := .int (u / 3)) (v_B (v_cons (d := .int (u / 3)) (v_op v_var v_c ((kFdiv_pos _ th (by decide) (by decide)).trans ?_)) v_nil) rfl) rfl) (v_cons (v_B (v_cons (d := .int (-q)) (v_op v_var v_c ((kFdiv_pos _ s (by decide) (by decide)).trans ?_)) v_nil) rfl) (v_cons (v_un v_var rfl) (v_cons v_c v_nil)))))))⟩
        · rw [s2, decide_eq_true h]
        · rw [t6, decide_eq_true h6]
        · rw [td, show th / 6 = u / 3 from by omega]
        · rw [sd, show s / 2 = -q from by omega]
      · rw [if_neg (show ¬ u % 3 = 0 by omega)] at he
        rw [he]
        refine ⟨false, (w_seq (w_set (d := .bl false) (v_and1 (v_op (v_op (v_B (v_cons v_var v_nil) rfl) v_c (par _)) v_c ((kEq_int _ _ _).trans ?_)) (v_op (v_op (v_B (v_cons v_var v_nil) rfl) v_c (thr _)) v_c ((kEq_int _ _ _).trans ?_))))).trans (w_set (v_if0 (v_bOf v_var) v_c))⟩
        · rw [s2, decide_eq_true h]
        · rw [t6, decide_eq_false h6]
    · rw [if_neg (show ¬ (-s) % 2 = 0 by omega)] at he
      rw [he]
      refine ⟨false, (w_seq (w_set (d := .bl false) (v_and0 (v_op (v_op (v_B (v_cons v_var v_nil) rfl) v_c (par _)) v_c ((kEq_int _ _ _).trans ?_))))).trans (w_set (v_if0 (v_bOf v_var) v_c))⟩
      rw [s2, decide_eq_false h]
  obtain ⟨is, due2⟩ := due2
  have rt : ∀ q : Blk, bSeq (bSet 7 (eAnd (eOp kEq (eOp kMod (eB kInt (qCons (eVar 4) qNil)) (eC (.int 2))) (eC (.int 0))) (eOp kEq (eOp kMod (eB kInt (qCons (eVar 5) qNil)) (eC (.int 6))) (eC (.int 0))))) (bSeq (bSet 6 (eIf (bOf (eVar 7)) (eTup (qCons (eUn kNeg (eB kInt (qCons (eOp kFdiv (eVar 5) (eC (.int 6))) qNil))) (qCons (eB kInt (qCons (eOp kFdiv (eVar 4) (eC (.int 2))) qNil)) (qCons (eUn kNeg (eVar 1)) (qCons (eC (.int 1)) qNil))))) (eC (.str "traces")))) q) [some (.loc 0), some (.int a), some (.int b), some (.int c), some (.int s), some (.int th), some (heD [2, a, b]), none] (jarS cells t3 r3) = q [some (.loc 0), some (.int a), some (.int b), some (.int c), some (.int s), some (.int th), some (heD [3, a, b, c]), some (.bl is)] (jarS cells t3 r3) := fun q => by
    rw [← seq_assoc, w_seq due2]
  refine ⟨t3, r3, ?_, h30, by omega⟩
  exact run_rt ((w_seq asg).trans ((w_seq pr).trans ((w_seq due1).trans ((w_seq chk).trans ((rt _).trans (w_ret (v_op (v_heard (v_call (v_cons (v_frz (v_lst (v_cons v_c (v_cons v_var (v_cons v_var (v_cons v_var v_nil)))))) v_nil) rfl) p2) v_var (eqH _ _)))))))) endBlJar
where
  seq_assoc {p q u : Blk} {ρ : Env} {S : Sto} : bSeq (bSeq p q) u ρ S = bSeq p (bSeq q u) ρ S := by
    unfold bSeq
    cases p ρ S <;> rfl
end
end M2

/-! P13: the law -/
namespace M2
open PySem PySem.Spec PyProof.Rows L2

theorem newR5 (v w : Int) : ∃ p, newR [4, 0, 2 * v, 0, (2 * v * (2 * v)).fdiv 2 + 4 * w] = some p := by
  have ed : (2 * v * (2 * v)).fdiv 2 = 2 * (v * v) := by
    rw [Int.mul_assoc, Int.mul_fdiv_cancel_left _ (by decide), ← Int.mul_assoc, Int.mul_comm v 2, Int.mul_assoc]
  rw [ed]
  generalize hd : 2 * (v * v) + 4 * w = d
  have z1 : (0 : Int).fmod ((1 : Nat) : Int) = 0 := rfl
  have z3 : (0 : Int).fmod ((3 : Nat) : Int) = 0 := rfl
  have e1 : tot [4, 0, 2 * v, 0, d] [1] = 0 := rfl
  have e2 : tot [4, 0, 2 * v, 0, d] [1, 0] = 2 * v := by show 2 * v * 1 + (0 * 0 + 0) = _; omega
  have e3 : tot [4, 0, 2 * v, 0, d] [1, 0, -v] = 0 := by show 0 * 1 + (2 * v * 0 + (0 * -v + 0)) = (0 : Int); simp
  have e4 : tot [4, 0, 2 * v, 0, d] [1, 0, -v, 0] = 4 * w := by
    show d * 1 + (0 * 0 + (2 * v * -v + (0 * 0 + 0))) = _
    rw [Int.mul_neg, Int.mul_assoc]; omega
  have q2 : (2 * v).fmod ((2 : Nat) : Int) = 0 := by rw [show (2 * v).fmod ((2 : Nat) : Int) = (2 * v) % 2 from fm_e _ (by decide)]; omega
  have q4 : (4 * w).fmod ((4 : Nat) : Int) = 0 := by rw [show (4 * w).fmod ((4 : Nat) : Int) = (4 * w) % 4 from fm_e _ (by decide)]; omega
  have d2 : (-(2 * v)).fdiv ((2 : Nat) : Int) = -v := by rw [show (-(2 * v)).fdiv ((2 : Nat) : Int) = (-(2 * v)) / 2 from fd_e _ (by decide)]; omega
  refine ⟨[(-(4 * w)).fdiv ((4 : Nat) : Int), 0, -v, 0, 1], ?_⟩
  show (if (tot [4, 0, 2 * v, 0, d] [1]).fmod ((1 : Nat) : Int) = 0 then newL [4, 0, 2 * v, 0, d] 3 ([1] ++ [(-(tot [4, 0, 2 * v, 0, d] [1])).fdiv ((1 : Nat) : Int)]) else none).map List.reverse = _
  rw [e1, if_pos z1]
  show (if (tot [4, 0, 2 * v, 0, d] [1, 0]).fmod ((2 : Nat) : Int) = 0 then newL [4, 0, 2 * v, 0, d] 2 ([1, 0] ++ [(-(tot [4, 0, 2 * v, 0, d] [1, 0])).fdiv ((2 : Nat) : Int)]) else none).map List.reverse = _
  rw [e2, if_pos q2, d2]
  show (if (tot [4, 0, 2 * v, 0, d] [1, 0, -v]).fmod ((3 : Nat) : Int) = 0 then newL [4, 0, 2 * v, 0, d] 1 ([1, 0, -v] ++ [(-(tot [4, 0, 2 * v, 0, d] [1, 0, -v])).fdiv ((3 : Nat) : Int)]) else none).map List.reverse = _
  rw [e3, if_pos z3]
  show (if (tot [4, 0, 2 * v, 0, d] [1, 0, -v, 0]).fmod ((4 : Nat) : Int) = 0 then newL [4, 0, 2 * v, 0, d] 0 ([1, 0, -v, 0] ++ [(-(tot [4, 0, 2 * v, 0, d] [1, 0, -v, 0])).fdiv ((4 : Nat) : Int)]) else none).map List.reverse = _
  rw [e4, if_pos q4]
  rfl
theorem kEq_strs (S : Sto) {x y : Str} (h1 : PyData.strOk x = true) (h2 : PyData.strOk y = true) : kEq S (.str x) (.str y) = some (.bl (x == y)) := by
  unfold kEq
  have e : ∀ {z : Str}, PyData.strOk z = true → SeqAt.shaped (.str z) = true := fun h => by simp [SeqAt.shaped, PyData.canLay0, PyData.depth, h]
  show ((if SeqAt.shaped (.str x) = true ∧ SeqAt.shaped (.str y) = true then some (PyData.eqv (.str x) (.str y)) else none).map D.bl) = _
  rw [if_pos ⟨e h1, e h2⟩]
  simp [PyData.eqv]
theorem kEq_tupstr (S : Sto) (l : List Int) {x : Str} (h : PyData.strOk x = true) : kEq S (.tup (iL l)) (.str x) = some (.bl false) := by
  unfold kEq kEqB
  have e : dpyS S (.tup (iL l)) = some (.tuple (l.map PyData.int)) := by
    show (dpys (iL l)).map PyData.tuple = _
    rw [dpys_iL]; rfl
  have e2 : SeqAt.shaped (.str x) = true := by simp [SeqAt.shaped, PyData.canLay0, PyData.depth, h]
  rw [e, show dpyS S (.str x) = some (.str x) from rfl]
  show (if SeqAt.shaped (.tuple (l.map PyData.int)) = true ∧ SeqAt.shaped (.str x) = true then some (PyData.eqv (.tuple (l.map PyData.int)) (.str x)) else none).map D.bl = _
  rw [if_pos ⟨shaped_tup l, e2⟩]
  simp [PyData.eqv]
section
variable {cells : List Int} {t r : Int}
noncomputable abbrev lwB : Blk := bSeq (bIf (bOr (bNot (bOf (eCall 1 m__law_product_right (qCons (eVar 1) qNil)))) (bOr (bNot (bOf (eCall 1 m__law_any_right (qCons (eVar 1) qNil)))) (bNot (bOf (eCall 1 m__law_few_right (qCons (eVar 1) qNil)))))) (bRet (eC (.bl false))) bNil) (bSeq (bSet 3 (eFrz (fOp kCat (eFrz (fLst (qCons (eC (.int 4)) qNil))) (eFrz (fLc (iB kRange1 (qCons (eC (.int 4)) qNil)) (.nm 4) tYesB (eOp kSub (eCall 2 m__law_lot (qCons (eVar 1) (qCons (eC (.int 17)) qNil))) (eC (.int 8))) [4]))))) (bSeq (bSet 5 (eHeard (eCall 1 m_polynomial_from (qCons (eVar 3) qNil)))) (bSeq (bIf (bOr (bAnd (bOf (eB kIsi (qCons (eVar 5) (qCons (eC (.ty "tuple")) qNil)))) (bOr (bOf (eOp kNe (eOp kIx (eVar 5) (eUn kNeg (eC (.int 1)))) (eC (.int 1)))) (bOf (eOp kNe (eCall 2 m_traces_from (qCons (eVar 5) (qCons (eC (.int 5)) qNil))) (eB kTuple (qCons (eVar 3) qNil)))))) (bOf (eOp kEq (eVar 5) (eC (.str "other"))))) (bRet (eC (.bl false))) bNil) (bSeq (bSet 6 (eFrz (fLst (qCons (eC (.int 4)) (qCons (eC (.int 0)) (qCons (eOp kMul (eC (.int 2)) (eCall 2 m__law_lot (qCons (eVar 1) (qCons (eC (.int 5)) qNil)))) (qCons (eC (.int 0)) qNil))))))) (bIf (bOf (eOp kEq (eHeard (eCall 1 m_polynomial_from (qCons (eFrz (fOp kCat (eVar 6) (eFrz (fLst (qCons (eOp kAdd (eOp kFdiv (eOp kMul (eOp kIx (eVar 6) (eC (.int 2))) (eOp kIx (eVar 6) (eC (.int 2)))) (eC (.int 2))) (eOp kMul (eC (.int 4)) (eCall 2 m__law_lot (qCons (eVar 1) (qCons (eC (.int 3)) qNil))))) qNil))))) qNil))) (eC (.str "traces")))) (bRet (eC (.bl false))) bNil)))))
theorem c_lap {d : D} {x2 x3 x5 x6 : Option D} (ht : 0 ≤ t) (hT : t ≤ 30000) : ∃ t' r' y3 y5 y6, lwB [some d, some (.loc 0), x2, x3, none, x5, x6] (jarS cells t r) = .nx [some d, some (.loc 0), x2, y3, none, y5, y6] (jarS cells t' r') ∧ 0 ≤ t' ∧ t' ≤ t + 40 := by
  obtain ⟨t1, r1, e1, h10, h11⟩ := c_product (cells := cells) (t := t) (r := r) ht (by omega)
  obtain ⟨t2, r2, e2, h20, h21⟩ := c_any (cells := cells) (t := t1) (r := r1) h10 (by omega)
  obtain ⟨t3, r3, e3, h30, h31⟩ := c_few (cells := cells) (t := t2) (r := r2) h20 (by omega)
  obtain ⟨vs, t4, r4, e4, hl, hb, h40, h41⟩ := c_draws (cells := cells) (m := 17) (off := 8) (by decide) (by decide) (ρ := [some d, some (.loc 0), x2, x3, none, x5, x6]) (i := 1) (j := 4) rfl (fun _ => rfl) 4 t3 h30 (by omega) r3 [] (by simp) 0
  obtain ⟨v, t5, r5, e5, v0, v1, h50, h51⟩ := c_lot (cells := cells) (t := t4) (r := r4) (m := 5) h40 (by omega) (by decide) (by decide)
  obtain ⟨w, t6, r6, e6, w0, w1, h60, h61⟩ := c_lot (cells := cells) (t := t5) (r := r5) (m := 3) h50 (by omega) (by decide) (by decide)
  rw [List.nil_append] at e4
  have hW4 := wf_jar cells t4 r4
  have hW6 := wf_jar cells t6 r6
  generalize hts : [4] ++ vs = ts
  have tl : ts.length = 5 := by rw [← hts]; simp [hl]
  have t0 : ts.getD 0 0 = (ts.length : Int) - 1 := by rw [tl, ← hts]; rfl
  have tsm : ∀ z ∈ ts, small z := fun z hz => by
    rw [← hts] at hz
    rcases List.mem_append.mp hz with hz | hz
    · rw [List.mem_singleton.mp hz]; exact ⟨by decide, by decide⟩
    · have := hb z hz; exact ⟨by omega, by omega⟩
  have p1 := c_polynomial_from hW4 (d := .lst (iL ts)) (ts := ts) (.inl rfl) (by omega) (by omega) t0 tsm
  have s1 : bIf (bOr (bNot (bOf (eCall 1 m__law_product_right (qCons (eVar 1) qNil)))) (bOr (bNot (bOf (eCall 1 m__law_any_right (qCons (eVar 1) qNil)))) (bNot (bOf (eCall 1 m__law_few_right (qCons (eVar 1) qNil)))))) (bRet (eC (.bl false))) bNil [some d, some (.loc 0), x2, x3, none, x5, x6] (jarS cells t r) = .nx [some d, some (.loc 0), x2, x3, none, x5, x6] (jarS cells t3 r3) :=
    (w_if0 (v_bOr0 (v_bNot (v_bOf (v_call (v_cons v_var v_nil) e1))) (v_bOr0 (v_bNot (v_bOf (v_call (v_cons v_var v_nil) e2))) (v_bNot (v_bOf (v_call (v_cons v_var v_nil) e3)))))).trans rfl
  have s2 : bSet 3 (eFrz (fOp kCat (eFrz (fLst (qCons (eC (.int 4)) qNil))) (eFrz (fLc (iB kRange1 (qCons (eC (.int 4)) qNil)) (.nm 4) tYesB (eOp kSub (eCall 2 m__law_lot (qCons (eVar 1) (qCons (eC (.int 17)) qNil))) (eC (.int 8))) [4])))) [some d, some (.loc 0), x2, x3, none, x5, x6] (jarS cells t3 r3) = .nx [some d, some (.loc 0), x2, some (.lst (iL ts)), none, x5, x6] (jarS cells t4 r4) := by
    have it : iB kRange1 (qCons (eC (.int 4)) qNil) [some d, some (.loc 0), x2, x3, none, x5, x6] (jarS cells t3 r3) = .ok (rng 0 4, []) (jarS cells t3 r3) := v_iB (v_cons v_c v_nil) (kRange1_nat _ 4 (by decide))
    exact w_set (v_frz (v_fOp (v_frz (v_lst (v_cons v_c v_nil))) (v_frz (v_lc it e4)) ((kCat_iL _ (a := [4]) (by rw [hl]; decide)).trans (by rw [hts]))))
  have s3 : bSet 5 (eHeard (eCall 1 m_polynomial_from (qCons (eVar 3) qNil))) [some d, some (.loc 0), x2, some (.lst (iL ts)), none, x5, x6] (jarS cells t4 r4) = .nx [some d, some (.loc 0), x2, some (.lst (iL ts)), none, some (heD ts), x6] (jarS cells t4 r4) :=
    w_set (v_heard (v_call (v_cons v_var v_nil) rfl) p1)
  have s4 : bIf (bOr (bAnd (bOf (eB kIsi (qCons (eVar 5) (qCons (eC (.ty "tuple")) qNil)))) (bOr (bOf (eOp kNe (eOp kIx (eVar 5) (eUn kNeg (eC (.int 1)))) (eC (.int 1)))) (bOf (eOp kNe (eCall 2 m_traces_from (qCons (eVar 5) (qCons (eC (.int 5)) qNil))) (eB kTuple (qCons (eVar 3) qNil)))))) (bOf (eOp kEq (eVar 5) (eC (.str "other"))))) (bRet (eC (.bl false))) bNil [some d, some (.loc 0), x2, some (.lst (iL ts)), none, some (heD ts), x6] (jarS cells t4 r4) = .nx [some d, some (.loc 0), x2, some (.lst (iL ts)), none, some (heD ts), x6] (jarS cells t4 r4) := by
    cases e : newR ts with
    | none =>
      have he : heD ts = .str "traces" := by unfold heD; rw [e]
      rw [he]
      exact (w_if0 (v_bOr0 (v_bAnd0 (v_bOf (v_B (v_cons v_var (v_cons v_c v_nil)) rfl))) (v_bOf (v_op v_var v_c ((kEq_strs _ (strOk_ofString _) (strOk_ofString _)).trans rfl))))).trans rfl
    | some p =>
      have he : heD ts = .tup (iL p) := by unfold heD; rw [e]
      rw [he]
      obtain ⟨b1, b2, b3⟩ := newR_back e (by omega) t0
      rw [tl] at b1 b3
      have hq : SqD (.tup (iL p)) p := .inr rfl
      have tr := c_traces_from hW4 hq (many := 5) (by omega) (by omega) (by rw [← co_last (by omega)]; exact b2) (by decide) (by decide) fun a _ b hb => mulOk_r (tsm b (by rw [← b3]; exact hb))
      rw [b3] at tr
      refine (w_if0 (v_bOr0 (v_bAnd1 (v_bOf (v_B (v_cons v_var (v_cons v_c v_nil)) rfl)) (v_bOr0 (v_bOf (v_op (a := .int 1) (v_op v_var (v_un v_c rfl) ?_) v_c (kNe_int _ 1 1))) (v_bOf (v_op (v_call (v_cons v_var (v_cons v_c v_nil)) tr) (v_B (d := .tup (iL ts)) (v_cons v_var v_nil) rfl) (neT _ ts))))) (v_bOf (v_op v_var v_c (kEq_tupstr _ _ (strOk_ofString _)))))).trans rfl
      show kIx _ (.tup (iL p)) (.int (-1)) = _
      rw [hq.ix, atI_last (x := 0) (fun z => by rw [z] at b1; cases b1), ← co_last (by omega), b2]
  have s5 : bSet 6 (eFrz (fLst (qCons (eC (.int 4)) (qCons (eC (.int 0)) (qCons (eOp kMul (eC (.int 2)) (eCall 2 m__law_lot (qCons (eVar 1) (qCons (eC (.int 5)) qNil)))) (qCons (eC (.int 0)) qNil)))))) [some d, some (.loc 0), x2, some (.lst (iL ts)), none, some (heD ts), x6] (jarS cells t4 r4) = .nx [some d, some (.loc 0), x2, some (.lst (iL ts)), none, some (heD ts), some (.lst (iL [4, 0, 2 * v, 0]))] (jarS cells t5 r5) :=
    w_set (v_frz (v_lst (v_cons v_c (v_cons v_c (v_cons (v_op v_c (v_call (v_cons v_var (v_cons v_c v_nil)) e5) (kMul_int _ (mulOk_l ⟨by decide, by decide⟩))) (v_cons v_c v_nil)))) (by rw [List.length_map]; exact sz (by simp))))
  obtain ⟨p5, n5⟩ := newR5 v w
  have bv : 2 * v * (2 * v) ≤ 8 * 8 := Int.mul_le_mul (by omega) (by omega) (by omega) (by decide)
  have bv0 : 0 ≤ 2 * v * (2 * v) := Int.mul_nonneg (by omega) (by omega)
  have bd : (2 * v * (2 * v)).fdiv 2 = 2 * v * (2 * v) / 2 := fd_e _ (by decide)
  have p6 := c_polynomial_from hW6 (d := .lst (iL [4, 0, 2 * v, 0, (2 * v * (2 * v)).fdiv 2 + 4 * w])) (ts := [4, 0, 2 * v, 0, (2 * v * (2 * v)).fdiv 2 + 4 * w]) (.inl rfl) (by simp) (by simp) rfl (fun x hx => by
    simp only [List.mem_cons, List.not_mem_nil, or_false] at hx
    rcases hx with rfl | rfl | rfl | rfl | rfl
    · exact ⟨by decide, by decide⟩
    · exact ⟨by decide, by decide⟩
    · exact ⟨by omega, by omega⟩
    · exact ⟨by decide, by decide⟩
    · rw [bd]; exact ⟨by omega, by omega⟩)
  have he5 : heD [4, 0, 2 * v, 0, (2 * v * (2 * v)).fdiv 2 + 4 * w] = .tup (iL p5) := by unfold heD; rw [n5]
  have s6 : bIf (bOf (eOp kEq (eHeard (eCall 1 m_polynomial_from (qCons (eFrz (fOp kCat (eVar 6) (eFrz (fLst (qCons (eOp kAdd (eOp kFdiv (eOp kMul (eOp kIx (eVar 6) (eC (.int 2))) (eOp kIx (eVar 6) (eC (.int 2)))) (eC (.int 2))) (eOp kMul (eC (.int 4)) (eCall 2 m__law_lot (qCons (eVar 1) (qCons (eC (.int 3)) qNil))))) qNil))))) qNil))) (eC (.str "traces")))) (bRet (eC (.bl false))) bNil [some d, some (.loc 0), x2, some (.lst (iL ts)), none, some (heD ts), some (.lst (iL [4, 0, 2 * v, 0]))] (jarS cells t5 r5) = .nx [some d, some (.loc 0), x2, some (.lst (iL ts)), none, some (heD ts), some (.lst (iL [4, 0, 2 * v, 0]))] (jarS cells t6 r6) := by
    have k1 := kEq_tupstr (jarS cells t6 r6) p5 (strOk_ofString "traces")
    rw [← he5] at k1
    exact (w_if0 (v_bOf (v_op (v_heard (v_call (v_cons (v_frz (v_fOp (es := iL [4, 0, 2 * v, 0, (2 * v * (2 * v)).fdiv 2 + 4 * w]) v_var (v_frz (v_lst (v_cons (v_op (v_op (v_op (a := .int (2 * v)) (b := .int (2 * v)) (v_op v_var v_c rfl) (v_op v_var v_c rfl) (kMul_int _ (mulOk_l ⟨by omega, by omega⟩))) v_c (kFdiv_pos _ _ (by decide) (by decide))) (v_op v_c (v_call (v_cons v_var (v_cons v_c v_nil)) e6) (kMul_int _ (mulOk_l ⟨by decide, by decide⟩))) rfl) v_nil))) (kCat_iL _ (a := [4, 0, 2 * v, 0]) (b := [(2 * v * (2 * v)).fdiv 2 + 4 * w]) (by simp)))) v_nil) rfl) p6) v_c k1))).trans rfl
  exact ⟨t6, r6, _, _, _, (w_seq s1).trans ((w_seq s2).trans ((w_seq s3).trans ((w_seq s4).trans ((w_seq s5).trans s6)))), h60, by omega⟩
end
theorem pro3 : Pro [1, -1, 2] [2, -1, -2, 1] := by
  have h := ((Pro.start.step (a := 1) (by decide) (by decide)).step (a := -1) (by decide) (by decide)).step (a := 2) (by decide) (by decide)
  have e : tmL (tmL (tmL [1] [-1, 1]) [- -1, 1]) [-2, 1] = [2, -1, -2, 1] := by decide +kernel
  rw [e] at h
  exact h
theorem luc : (trL [-1, -1, 1] 40).getD 39 0 = 141422324 := by decide +kernel
theorem one3 : trL [0, 1] 3 = [1, 0, 0] := by decide +kernel
theorem c_law (ns : List Int) : ∃ S, m_law [.wls ns] [] = .ok (.bl true) S := by
  obtain ⟨cells, ej⟩ := c_jar ns
  obtain ⟨ρ', S', el, ⟨t, r, x2, x3, x5, x6, rfl, rfl, h0, h1⟩⟩ := forL_inv (c := []) (t := .nm 2) (body := lwB) (fun ds ρ S => ∃ t r x2 x3 x5 x6, ρ = [some (.wls ns), some (.loc 0), x2, x3, none, x5, x6] ∧ S = jarS cells t r ∧ 0 ≤ t ∧ t + 40 * (ds.length : Int) ≤ 1000)
    (fun d ds ρ S h => by
      obtain ⟨t, r, x2, x3, x5, x6, rfl, rfl, h0, h1⟩ := h
      rw [List.length_cons] at h1
      obtain ⟨t', r', y3, y5, y6, e, h2, h3⟩ := c_lap (cells := cells) (t := t) (r := r) (d := .wls ns) (x2 := some d) (x3 := x3) (x5 := x5) (x6 := x6) h0 (by omega)
      exact ⟨srcs0, _, _, _, rfl, e, t', r', _, _, _, _, rfl, rfl, h2, by omega⟩) (fun _ _ _ => srcs0) (rng 0 4) [some (.wls ns), some (.loc 0), none, none, none, none, none] (jarS cells 0 0) ⟨0, 0, none, none, none, none, rfl, rfl, by decide, by decide⟩
  have hW := wf_jar cells t r
  have T1 := c_pro_traces hW pro3 (by decide) (by decide) (many := 100) (by decide) (by decide)
  have T2 := c_powers hW (ns := [1, -1, 2]) (fun x hx => by
    simp only [List.mem_cons, List.not_mem_nil, or_false] at hx
    rcases hx with rfl | rfl | rfl <;> exact ⟨by decide, by decide⟩) (by decide) (many := 100) (by decide)
  have sm3 : ∀ x ∈ ([-1, -1, 1] : List Int), small x := fun x hx => by
    simp only [List.mem_cons, List.not_mem_nil, or_false] at hx
    rcases hx with rfl | rfl | rfl <;> exact ⟨by decide, by decide⟩
  have sm2 : ∀ x ∈ ([0, 1] : List Int), small x := fun x hx => by
    simp only [List.mem_cons, List.not_mem_nil, or_false] at hx
    rcases hx with rfl | rfl <;> exact ⟨by decide, by decide⟩
  have T3 := c_pol_traces hW (d := .lst (iL [-1, -1, 1])) (p := [-1, -1, 1]) (.inl rfl) (by decide) (by decide) rfl sm3 (many := 40) (by decide) (by decide)
  have T4 := c_pol_traces hW (d := .lst (iL [0, 1])) (p := [0, 1]) (.inl rfl) (by decide) (by decide) rfl sm2 (many := 3) (by decide) (by decide)
  rw [one3] at T4
  have hq : SqD (.tup (iL (trL [-1, -1, 1] 40))) (trL [-1, -1, 1] 40) := .inr rfl
  have ix : kIx (jarS cells t r) (.tup (iL (trL [-1, -1, 1] 40))) (.int 39) = some (.int 141422324) := by
    exact (hq.ix _ _).trans ((atI_int (i := 39) (j := 39) rfl (by rw [trL_length (many := 40) (by decide)]; decide)).trans (by rw [luc]))
  exact ⟨[], run_rt ((w_seq (w_set (v_call (v_cons v_var v_nil) ej))).trans ((w_seq ((w_for (ds := rng 0 4) (src := []) (v_iB (v_cons v_c v_nil) (kRange1_nat _ 4 (by decide)))).trans el)).trans ((w_seq ((w_if0 (v_bOf (v_op (v_call (v_cons (v_frz (v_lst (v_cons v_c (v_cons (v_un v_c rfl) (v_cons (v_un v_c rfl) (v_cons v_c v_nil)))))) (v_cons v_c v_nil)) T1) (v_call (v_cons (v_frz (v_lst (v_cons v_c (v_cons (v_un v_c rfl) (v_cons v_c v_nil))))) (v_cons v_c v_nil)) T2) (neT _ _)))).trans rfl)).trans
    (w_ret (v_and1 (v_op (a := .int 141422324) (v_op (v_call (v_cons (v_frz (v_lst (v_cons (v_un v_c rfl) (v_cons (v_un v_c rfl) (v_cons v_c v_nil))))) (v_cons v_c v_nil)) T3) v_c ix) v_c ((kEq_int _ _ _).trans (by rw [decide_eq_true rfl]))) (v_op (v_call (v_cons (v_frz (v_lst (v_cons v_c (v_cons v_c v_nil)))) (v_cons v_c v_nil)) T4) (v_tup (v_cons v_c (v_cons v_c (v_cons v_c v_nil)))) (eqT _ [1, 0, 0]))))))) rfl⟩
end M2

theorem PySem.Challenge.cw_littlewebs_k32_closed_walks_there_and_ba_holds : PySem.Challenge.rw_littlewebs_k32_closed_walks_there_and_ba.Holds := by
  exact M2.holds_of fun ns _ _ => M2.c_law ns
