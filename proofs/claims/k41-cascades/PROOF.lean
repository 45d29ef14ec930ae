import PyProof.Rows.All
import Wide.All
import OpenK.AllK
import Wide.FinOn
import HandS.ForMost
import HandS.ForExc
import HandS.Evl
import HandS.Lambda
import HandS.EndTab
import HandS.Flow
import HandS.Style
import HandS.Deep
import HandS.TupAny
import HandS.RaiseMore
import HandS.Defaults
import HandS.Wide
import HandS.IsInst
import HandS.CallLocal
import HandS.Zip
import HandS.ExcInit
import HandS.ExcIs
import HandS.ExcField
import HandS.ExcOwn
import HandS.SortKw
import KE.KMathGC
import KE.DatumIndex
import KE.KExcSuper
import KE.KSuper
import KE.KExcIs
import HandS.Gcd
import PyProof.StrOps2
import HandS.Head0
import HandS.Head1
import HandS.Head2
import HandS.HeadEnd
import HandS.HeadHook1
import HandS.HeadHook2
import HandS.HeadHook3
import HandS.HeadHook4
import HandS.HeadWalk
import HandS.Head3
import PySem.Challenge.RW_lotsclosed_k41_whole_cascades
set_option Elab.async false
set_option linter.all false
set_option maxRecDepth 100000
/-! DA: plain data, what stands for it, frames, states of a def's body, and the first rules. -/
namespace DL
open PySem PySem.Spec PyProof.Rows L2

/-- plain data (and the few other things that values are) -/
inductive D where
  | non | bl (b : Bool) | int (i : Int) | str (x : Str)
  | tup (l : List D) | lst (l : List D)
  | fn (x : Str) | ty (x : String)
  | exc (x : Str) (ns : List Str) (ds : List D)
  | ins (x : Str) (ns : List Str) (ds : List D)
  | dic (ks : List D) (vs : List D)
  | drw | scr (l : List Int)

/-- what is the same through a law's run: the tables of code objects; the region of the draws -/
structure Gd where
  T : List (Addr × Str)
  R : List Addr
  dw : Hp → Prop
  dv : V
  ks : Hp
  dwk : ∀ H H' : Hp, (∀ a ∈ R, H' a = H a) → dw H → dw H'
  dwa : ∀ H, dw H → ∀ a ∈ R, ∃ o, H a = some o ∧ ∀ ps, o ≠ .tbl ps

/-- the draws: the dict at d, the rest of the large numbers at b, the cells at c -/
def DrwAt (d b c : Addr) (H : Hp) : Prop := ∃ (big : List Int) (rest turn : Int), H d = some (.dK [(.inr "large", .ref b), (.inr "rest", .int rest), (.inr "cells", .ref c), (.inr "turn", .int turn)]) ∧ H b = some (.lst (big.map V.int)) ∧
  big.length ≤ 63 ∧ (∀ z ∈ big, 0 ≤ z) ∧ 0 ≤ rest ∧ 0 ≤ turn
def DrwOk (g : Gd) : Prop := ∃ (d b c : Addr) (cells : List Int), g.dv = .ref d ∧ g.R = [d, b] ∧ g.ks c = some (.lst (cells.map V.int)) ∧ cells.length ≤ 63 ∧ (∀ z ∈ cells, 0 ≤ z) ∧ ∀ H, g.dw H ↔ DrwAt d b c H

/-- an exception that was caught, held as a value -/
def exV (cls : Value) (d : Option Addr) (a : Addr) : HO := .ext fun h => ∃ (oe : Obj) (vs : Array Value), h.get? a = some oe ∧ Zc cls d oe ∧ oe.data = .fields vs

mutual
def Rep (K : PySem.W.Frag) (mg : Str → Option Value) (g : Gd) (S : Hp) : D → V → Prop
  | .non, v => v = .non
  | .bl b, v => v = .bl b
  | .int i, v => v = .int i
  | .str x, v => v = .str x
  | .tup l, v => ∃ a vs, v = .ref a ∧ SqT K S a vs ∧ Reps K mg g S l vs
  | .lst l, v => ∃ a vs, v = .ref a ∧ S a = some (.lst vs) ∧ Reps K mg g S l vs
  | .fn x, v => ∃ f, v = .ref f ∧ mg x = some (.ref f)
  | .ty x, v => v = .ty x
  | .exc x ns ds, v => ∃ a C d vs, v = .ref a ∧ mg x = some (.ref C) ∧ S a = some (exV (.ref C) d a) ∧ Reps K mg g S ds vs ∧ ns.length = ds.length ∧
      (∀ dx, d = some dx → S dx = some (.xd (ns.zip vs))) ∧ (d = none → ns = [])
  | .ins x ns ds, v => ∃ a C dx vs, v = .ref a ∧ mg x = some (.ref C) ∧ S a = some (.ins C dx (ns.zip vs)) ∧ Reps K mg g S ds vs ∧ ns.length = ds.length
  | .dic ks ws, v => ∃ a kv, v = .ref a ∧ (∃ us, Reps K mg g S ws us ∧ ks.length = ws.length ∧ S a = some kv ∧ kv = kv ∧ us = us ∧ False)
  | .drw, v => v = g.dv ∧ DrwOk g
  | .scr l, v => ∃ a, v = .ref a ∧ SqL K S a (l.map V.int)
def Reps (K : PySem.W.Frag) (mg : Str → Option Value) (g : Gd) (S : Hp) : List D → List V → Prop
  | [], vs => vs = []
  | d :: ds, vs => ∃ w ws, vs = w :: ws ∧ Rep K mg g S d w ∧ Reps K mg g S ds ws
end

abbrev Ex (H H' : Hp) : Prop := ∀ a o, H a = some o → H' a = some o
theorem Ex.rf (H : Hp) : Ex H H := fun _ _ h => h
theorem Ex.tr {H H1 H2 : Hp} (a : Ex H H1) (b : Ex H1 H2) : Ex H H2 := fun x o h => b x o (a x o h)

section
variable {K : PySem.W.Frag} {mg : Str → Option Value} {g : Gd} {S S' : Hp}
mutual
theorem Rep.mono (e : Ex S S') : ∀ (d : D) (v : V), Rep K mg g S d v → Rep K mg g S' d v
  | .non, v, h => h
  | .bl b, v, h => h
  | .int i, v, h => h
  | .str x, v, h => h
  | .tup l, v, h => by
    unfold Rep at h ⊢
    obtain ⟨a, vs, h1, h2, h3⟩ := h
    exact ⟨a, vs, h1, Evl.ex_t e h2, Reps.mono e l vs h3⟩
  | .lst l, v, h => by
    unfold Rep at h ⊢
    obtain ⟨a, vs, h1, h2, h3⟩ := h
    exact ⟨a, vs, h1, e _ _ h2, Reps.mono e l vs h3⟩
  | .fn x, v, h => h
  | .ty x, v, h => h
  | .exc x ns ds, v, h => by
    unfold Rep at h ⊢
    obtain ⟨a, C, d, vs, h1, h2, h3, h4, h5, h6, h7⟩ := h
    exact ⟨a, C, d, vs, h1, h2, e _ _ h3, Reps.mono e ds vs h4, h5, fun dx q => e _ _ (h6 dx q), h7⟩
  | .ins x ns ds, v, h => by
    unfold Rep at h ⊢
    obtain ⟨a, C, dx, vs, h1, h2, h3, h4, h5⟩ := h
    exact ⟨a, C, dx, vs, h1, h2, e _ _ h3, Reps.mono e ds vs h4, h5⟩
  | .dic ks ws, v, h => by
    unfold Rep at h
    obtain ⟨a, kv, _, us, _, _, _, _, _, z⟩ := h
    exact z.elim
  | .drw, v, h => h
  | .scr l, v, h => by
    unfold Rep at h ⊢
    obtain ⟨a, h1, h2⟩ := h
    exact ⟨a, h1, Evl.ex_l e h2⟩
theorem Reps.mono (e : Ex S S') : ∀ (ds : List D) (vs : List V), Reps K mg g S ds vs → Reps K mg g S' ds vs
  | [], vs, h => h
  | d :: ds, vs, h => by
    unfold Reps at h ⊢
    obtain ⟨w, ws, h1, h2, h3⟩ := h
    exact ⟨w, ws, h1, Rep.mono e d w h2, Reps.mono e ds ws h3⟩
end
theorem Reps.len : ∀ {ds : List D} {vs : List V}, Reps K mg g S ds vs → ds.length = vs.length
  | [], vs, h => by
    unfold Reps at h
    rw [h]
    rfl
  | d :: ds, vs, h => by
    unfold Reps at h
    obtain ⟨w, ws, h1, _, h3⟩ := h
    rw [h1, List.length_cons, List.length_cons, Reps.len h3]
theorem Reps.nil : Reps K mg g S [] [] := by
  unfold Reps
  rfl
theorem Reps.cons {d : D} {v : V} {ds : List D} {vs : List V} (h : Rep K mg g S d v) (t : Reps K mg g S ds vs) : Reps K mg g S (d :: ds) (v :: vs) := by
  unfold Reps
  exact ⟨v, vs, rfl, h, t⟩
theorem Reps.app : ∀ {ds es : List D} {vs ws : List V}, Reps K mg g S ds vs → Reps K mg g S es ws → Reps K mg g S (ds ++ es) (vs ++ ws)
  | [], es, vs, ws, h, t => by
    unfold Reps at h
    rw [h]
    exact t
  | d :: ds, es, vs, ws, h, t => by
    unfold Reps at h
    obtain ⟨w, us, h1, h2, h3⟩ := h
    rw [h1]
    exact Reps.cons h2 (Reps.app h3 t)
theorem Reps.get : ∀ {ds : List D} {vs : List V} {i : Nat} {v : V}, Reps K mg g S ds vs → vs[i]? = some v → ∃ d, ds[i]? = some d ∧ Rep K mg g S d v
  | [], vs, i, v, h, e => by
    unfold Reps at h
    rw [h] at e
    simp at e
  | d :: ds, vs, i, v, h, e => by
    unfold Reps at h
    obtain ⟨w, us, h1, h2, h3⟩ := h
    rw [h1] at e
    cases i with
    | zero =>
      have e' : w = v := by simpa using e
      rw [← e']
      exact ⟨d, rfl, h2⟩
    | succ i =>
      obtain ⟨d', q1, q2⟩ := Reps.get (i := i) h3 (by simpa using e)
      exact ⟨d', by simpa using q1, q2⟩
theorem Reps.got : ∀ {ds : List D} {vs : List V} {i : Nat} {d : D}, Reps K mg g S ds vs → ds[i]? = some d → ∃ v, vs[i]? = some v ∧ Rep K mg g S d v := fun {ds vs i d} h e => by
  have hl := h.len
  have hi := (List.getElem?_eq_some_iff.mp e).1
  have hv : vs[i]? = some (vs[i]'(by omega)) := by simp
  obtain ⟨d', q1, q2⟩ := Reps.get h hv
  rw [e] at q1
  cases q1
  exact ⟨_, hv, q2⟩
end

/-! ### frames -/
def isDic : HO → Bool
  | .dK _ => true
  | .dT _ => true
  | _ => false
/-- the stable part S lies in H (a dict may be locked there) -/
def Le (S H : Hp) : Prop := ∀ a o, S a = some o → H a = some o ∨ (isDic o = true ∧ ∃ ob, H a = some (.frz ob o))
theorem Le.none {S H : Hp} (h : Le S H) {a : Addr} (e : H a = none) : S a = none := by
  cases q : S a with
  | none => rfl
  | some o =>
    rcases h a o q with z | ⟨_, ob, z⟩ <;> rw [e] at z <;> cases z
theorem Le.ex {S H H' : Hp} (h : Le S H) (e : Ex H H') : Le S H' := fun a o q => by
  rcases h a o q with z | ⟨z1, ob, z⟩
  · exact .inl (e _ _ z)
  · exact .inr ⟨z1, ob, e _ _ z⟩
theorem Le.rd {S H : Hp} (h : Le S H) {a : Addr} {u : HO} (hu : isDic u = false) (r : Rd S a u) : Rd H a u := by
  rcases r with r | ⟨o, r⟩
  · rcases h a u r with z | ⟨z, _⟩
    · exact .inl z
    · rw [hu] at z
      cases z
  · rcases h a _ r with z | ⟨z, _⟩
    · exact .inr ⟨o, z⟩
    · cases z
theorem Le.sqL {K : PySem.W.Frag} {S H : Hp} {a : Addr} {xs : List V} (h : Le S H) (q : SqL K S a xs) : SqL K H a xs := by
  rcases q with q | q
  · exact .inl (h.rd rfl q)
  · exact .inr q
theorem Le.sqT {K : PySem.W.Frag} {S H : Hp} {a : Addr} {xs : List V} (h : Le S H) (q : SqT K S a xs) : SqT K H a xs := by
  rcases q with q | q
  · exact .inl (h.rd rfl q)
  · exact .inr q

/-- nothing stands there, or a table of code objects -/
def Nn (H : Hp) (a : Addr) : Prop := ∀ o, H a = some o → ∃ ps, o = .tbl ps
theorem Nn.of {H : Hp} {a : Addr} (h : H a = none) : Nn H a := fun o e => by
  rw [h] at e
  cases e
theorem Nn.lst {H : Hp} {a : Addr} {vs : List V} (h : Nn H a) (e : H a = some (.lst vs)) : False := by
  obtain ⟨ps, z⟩ := h _ e
  cases z
/-- from (S0, H0), a def's entry or a call's start, to (S, H) -/
structure Frm (g : Gd) (S0 H0 S H : Hp) : Prop where
  ss : Ex S0 S
  le : Le S H
  fr : ∀ a o, H0 a = some o → a ∉ g.R → (∀ ps, o ≠ .tbl ps) → H a = some o
  al : ∀ a, H a = none → Nn H0 a
  nw : ∀ a o, S a = some o → S0 a = some o ∨ Nn H0 a
  dw : g.dw H
  rs : ∀ a ∈ g.R, S a = none
  tb : LamX.Tabs g.T H
  nt : ∀ a ps, S a ≠ some (.tbl ps)
  kn : Ex g.ks S
/-- only new things -/
structure New (S H S' H' : Hp) : Prop where
  ss : Ex S S'
  hh : Ex H H'
  le : Le S' H'
  nw : ∀ a o, S' a = some o → S a = some o ∨ H a = none
  nt : (∀ a ps, S a ≠ some (.tbl ps)) → ∀ a ps, S' a ≠ some (.tbl ps)
theorem New.rf {S H : Hp} (l : Le S H) : New S H S H := ⟨Ex.rf _, Ex.rf _, l, fun _ _ h => .inl h, fun h => h⟩
theorem Ex.none {H H' : Hp} (e : Ex H H') {a : Addr} (h : H' a = none) : H a = none := by
  cases q : H a with
  | none => rfl
  | some o =>
    rw [e _ _ q] at h
    cases h
theorem New.tr {S H S1 H1 S2 H2 : Hp} (a : New S H S1 H1) (b : New S1 H1 S2 H2) : New S H S2 H2 :=
  ⟨a.ss.tr b.ss, a.hh.tr b.hh, b.le, fun x o h => by
    rcases b.nw x o h with z | z
    · exact a.nw x o z
    · exact .inr (a.hh.none z), fun h => b.nt (a.nt h)⟩
/-- a new object, known for good -/
theorem New.add {S H : Hp} {p : Addr} {o : HO} (l : Le S H) (n : H p = none) (ht : ∀ ps, o ≠ .tbl ps) : New S H (upd S p o) (upd H p o) := by
  have ns := l.none n
  refine ⟨fun a u e => ?_, fun a u e => ?_, fun a u e => ?_, fun a u e => ?_, fun h a ps e => ?_⟩
  · rw [upd_ne (ne_of_none e ns)]
    exact e
  · rw [upd_ne (ne_of_none e n)]
    exact e
  · by_cases q : a = p
    · rw [q, upd_same] at e
      rw [q, upd_same]
      exact .inl e
    · rw [upd_ne q] at e
      rw [upd_ne q]
      exact l a u e
  · by_cases q : a = p
    · rw [q]
      exact .inr n
    · rw [upd_ne q] at e
      exact .inl e
  · by_cases q : a = p
    · rw [q, upd_same] at e
      exact ht ps (Option.some.inj e)
    · rw [upd_ne q] at e
      exact h a ps e
/-- a new object that is not told of -/
theorem New.hid {S H : Hp} {p : Addr} {o : HO} (l : Le S H) (n : H p = none) : New S H S (upd H p o) :=
  ⟨Ex.rf _, fun a u e => by rw [upd_ne (ne_of_none e n)]; exact e, fun a u e => by
    have e' : a ≠ p := fun q => by
      rw [q, l.none n] at e
      cases e
    rw [upd_ne e']
    exact l a u e, fun _ _ h => .inl h, fun h => h⟩
section
variable {g : Gd} {S0 H0 S H S' H' : Hp}
theorem tabs_ex {T : List (Addr × Str)} (t : LamX.Tabs T H) (e : Ex H H') : LamX.Tabs T H' := t.ext e
theorem Frm.new (f : Frm g S0 H0 S H) (n : New S H S' H') : Frm g S0 H0 S' H' where
  ss := f.ss.tr n.ss
  le := n.le
  fr := fun a o h1 h2 h3 => n.hh _ _ (f.fr a o h1 h2 h3)
  al := fun a h => f.al a (n.hh.none h)
  nw := fun a o h => by
    rcases n.nw a o h with z | z
    · exact f.nw a o z
    · exact .inr (f.al a z)
  dw := g.dwk _ _ (fun a ha => by
    obtain ⟨o, ho, _⟩ := g.dwa _ f.dw a ha
    rw [ho, n.hh _ _ ho]) f.dw
  rs := fun a h => by
    cases q : S' a with
    | none => rfl
    | some o =>
      rcases n.nw a o q with z | z
      · rw [f.rs a h] at z
        cases z
      · obtain ⟨u, hu, _⟩ := g.dwa _ f.dw a h
        rw [hu] at z
        cases z
  tb := tabs_ex f.tb n.hh
  nt := n.nt f.nt
  kn := f.kn.tr n.ss
theorem tabs_lst {T : List (Addr × Str)} {a : Addr} {us vs : List V} (t : LamX.Tabs T H) (h : H a = some (.lst us)) : LamX.Tabs T (upd H a (.lst vs)) := fun p hp => by
  obtain ⟨ps, h1, h2, h3⟩ := t p hp
  refine ⟨ps, by rw [upd_ne (fun q => by rw [q, h] at h1; cases h1)]; exact h1, h2, fun pos cv hc => ?_⟩
  obtain ⟨c, e1, e2⟩ := h3 pos cv hc
  refine ⟨c, e1, ?_⟩
  rw [upd_ne (fun q => ?_)]
  · exact e2
  · rw [q, h] at e2
    have z := Option.some.inj e2
    unfold LamX.CodeO at z
    cases z
theorem Frm.back (f : Frm g S0 H0 S H) {a : Addr} (h : Nn H a) : Nn H0 a := fun o e => by
  by_cases ht : ∃ ps, o = .tbl ps
  · exact ht
  · by_cases hr : a ∈ g.R
    · obtain ⟨u, hu, hn⟩ := g.dwa _ f.dw a hr
      obtain ⟨ps, z⟩ := h u hu
      exact absurd z (hn ps)
    · exact h o (f.fr a o e hr fun ps z => ht ⟨ps, z⟩)
/-- the tables and code objects grow -/
theorem Frm.tabs (f : Frm g S0 H0 S H) (e : LamX.ExtN H H') (t : LamX.Tabs g.T H') : Frm g S0 H0 S H' where
  ss := f.ss
  le := fun a o h => by
    rcases f.le a o h with z | ⟨z1, ob, z⟩
    · exact .inl (e a o z fun ps q => f.nt a ps (by rw [h, q]))
    · exact .inr ⟨z1, ob, e a _ z fun ps q => by cases q⟩
  fr := fun a o h1 h2 h3 => e a o (f.fr a o h1 h2 h3) h3
  al := fun a h => f.back fun o z => by
    by_cases ht : ∃ ps, o = .tbl ps
    · exact ht
    · rw [e a o z fun ps q => ht ⟨ps, q⟩] at h
      cases h
  nw := f.nw
  dw := g.dwk _ _ (fun a ha => by
    obtain ⟨o, ho, hn⟩ := g.dwa _ f.dw a ha
    rw [ho, e a o ho hn]) f.dw
  rs := f.rs
  tb := t
  nt := f.nt
  kn := f.kn
/-- two frames, one behind the other -/
theorem Frm.tr (f : Frm g S0 H0 S H) (f2 : Frm g S H S' H') : Frm g S0 H0 S' H' where
  ss := f.ss.tr f2.ss
  le := f2.le
  fr := fun a o h1 h2 h3 => f2.fr a o (f.fr a o h1 h2 h3) h2 h3
  al := fun a h => f.back (f2.al a h)
  nw := fun a o h => by
    rcases f2.nw a o h with z | z
    · exact f.nw a o z
    · exact .inr (f.back z)
  dw := f2.dw
  rs := f2.rs
  tb := f2.tb
  nt := f2.nt
  kn := f2.kn
theorem Frm.rf (f : Frm g S0 H0 S H) : Frm g S H S H where
  ss := Ex.rf _
  le := f.le
  fr := fun _ _ h _ _ => h
  al := fun _ h => Nn.of h
  nw := fun _ _ h => .inl h
  dw := f.dw
  rs := f.rs
  tb := f.tb
  nt := f.nt
  kn := f.kn
end

/-! ### a body's state -/
/-- a local name: unknown; plain data; a list that this name alone holds -/
inductive Slot where
  | un | sh (d : D) | own (l : List D)
abbrev Ev := List Slot
section
variable (K : PySem.W.Frag) (mg : Str → Option Value) (g : Gd)
def SlotOk (B : Hp × Hp) (S H : Hp) (s : Slot) (o : Option (Option V)) : Prop :=
  match s with
  | .un => True
  | .sh d => ∃ v, o = some (some v) ∧ Rep K mg g S d v
  | .own l => ∃ a vs, o = some (some (.ref a)) ∧ S a = none ∧ Nn B.2 a ∧ a ∉ g.R ∧ H a = some (.lst vs) ∧ Reps K mg g S l vs
structure Ok (B : Hp × Hp) (env : Ev) (S : Hp) (σ : L2.St) (H : Hp) : Prop where
  frm : Frm g B.1 B.2 S H
  len : env.length = σ.length
  slots : ∀ (i : Nat) (s : Slot), env[i]? = some s → SlotOk K mg g B S H s σ[i]?
  apart : ∀ (i j : Nat) (l m : List D) (a : Addr), env[i]? = some (.own l) → env[j]? = some (.own m) → σ[i]? = some (some (.ref a)) → σ[j]? = some (some (.ref a)) → i = j
end

/-- a computation: what is wanted of its value, of its error -/
abbrev W (α : Type) := (α → Prop) → (D → Prop) → Prop
abbrev EM := Ev → W D
def W.ret {α : Type} (a : α) : W α := fun P _ => P a
def W.bind {α β : Type} (m : W α) (k : α → W β) : W β := fun P X => m (fun a => k a P X) X
def W.fail {α : Type} : W α := fun _ _ => False
def W.raise {α : Type} (x : D) : W α := fun _ X => X x

/-- an error in flight: its class, its own dict -/
def RepX (K : PySem.W.Frag) (mg : Str → Option Value) (g : Gd) (S : Hp) (cls : Value) (d : Option Addr) : D → Prop
  | .exc x ns ds => ∃ C vs, mg x = some (.ref C) ∧ cls = .ref C ∧ Reps K mg g S ds vs ∧ ns.length = ds.length ∧ (∀ dx, d = some dx → S dx = some (.xd (ns.zip vs))) ∧ (d = none → ns = [])
  | _ => False

section
variable (X : Cx) (g : Gd) (B : Hp × Hp) (E : XK)
/-- how an expression's computation is met by the hand layer's reading -/
def clo (m : EM) : TE := fun σ H Q => ∃ env S P Z, Ok X.K X.mg g B env S σ H ∧ m env P Z ∧
  (∀ d v S' H', P d → Ok X.K X.mg g B env S' σ H' → Ex S S' → Rep X.K X.mg g S' d v → Q v H') ∧
  (∀ x cls dx S' H', Z x → Frm g B.1 B.2 S' H' → RepX X.K X.mg g S' cls dx x → E cls dx H')
def cloT (m : Ev → W Bool) : TT := fun σ H Q => ∃ env S P Z, Ok X.K X.mg g B env S σ H ∧ m env P Z ∧
  (∀ b S' H', P b → Ok X.K X.mg g B env S' σ H' → Ex S S' → Q b H') ∧
  (∀ x cls dx S' H', Z x → Frm g B.1 B.2 S' H' → RepX X.K X.mg g S' cls dx x → E cls dx H')
def cloA (m : Ev → W (List D)) : TA := fun σ H Q => ∃ env S P Z, Ok X.K X.mg g B env S σ H ∧ m env P Z ∧
  (∀ ds vs S' H', P ds → Ok X.K X.mg g B env S' σ H' → Ex S S' → Reps X.K X.mg g S' ds vs → Q vs H') ∧
  (∀ x cls dx S' H', Z x → Frm g B.1 B.2 S' H' → RepX X.K X.mg g S' cls dx x → E cls dx H')
def DE (e : Expr) (m : EM) : Prop := PE X e (clo X g B E m)
def DT (e : Expr) (m : Ev → W Bool) : Prop := PT X e (cloT X g B E m)
def DAr (es : List Expr) (m : Ev → W (List D)) : Prop := PA X es (cloA X g B E m)
end
theorem pe_imp {X : Cx} {e : Expr} {t u : TE} (h : PE X e t) (i : ∀ σ H Q, u σ H Q → t σ H Q) : PE X e u := ⟨fun pins s σ H Q I q => h.run pins s σ H Q I (i σ H Q q)⟩
theorem pt_imp {X : Cx} {e : Expr} {t u : TT} (h : PT X e t) (i : ∀ σ H Q, u σ H Q → t σ H Q) : PT X e u := ⟨fun pins s σ H Q I q => h.run pins s σ H Q I (i σ H Q q)⟩
theorem pa_imp {X : Cx} {e : List Expr} {t u : TA} (h : PA X e t) (i : ∀ σ H Q, u σ H Q → t σ H Q) : PA X e u := ⟨fun pos pins s σ H Q I q => h.run pos pins s σ H Q I (i σ H Q q)⟩
theorem pss_imp {X : Cx} {e : List Stmt} {t u : TS} (h : PSs X e t) (i : ∀ D σ H, u D σ H → t D σ H) : PSs X e u := ⟨fun pins s σ H D I q => h.run pins s σ H D I (i D σ H q)⟩
theorem ps_imp {X : Cx} {e : Stmt} {t u : TS} (h : PS X e t) (i : ∀ D σ H, u D σ H → t D σ H) : PS X e u := ⟨fun pins s σ H D I q => h.run pins s σ H D I (i D σ H q)⟩
end DL

set_option Elab.async false
set_option linter.all false
set_option maxRecDepth 100000
set_option maxHeartbeats 2000000
/-! DB: states under steps; the rules of expressions, statements, loops, comprehensions. -/
namespace DL
open PySem PySem.Spec PyProof.Rows L2
/-! ### no starred argument -/
def isStar : Expr → Bool
  | .Starred _ _ => true
  | _ => false
def noStar : List Expr → Bool
  | [] => true
  | a :: r => !isStar a && noStar r
theorem st_one {a : Expr} {es : List Expr} {env : Env} (h : isStar a = false) : starEach (a :: es) env = (false, eval a env) :: starEach es env := by
  cases a <;> first
    | rfl
    | cases h
theorem noStar_hd {a : Expr} {es : List Expr} (h : noStar (a :: es) = true) : isStar a = false ∧ noStar es = true := by
  unfold noStar at h
  simpa using h
theorem st_cons {a : Expr} {es : List Expr} {env : Env} (h : noStar (a :: es) = true) : starEach (a :: es) env = (false, eval a env) :: starEach es env := st_one (noStar_hd h).1
theorem st_all {pos : Pos} {env : Env} : ∀ {es : List Expr}, noStar es = true → (backTo pos (starEach es env)).any (·.1) = false
  | [], _ => rfl
  | a :: es, h => by
    rw [st_one (noStar_hd h).1]
    unfold backTo
    rw [List.map_cons, List.any_cons]
    have z := st_all (pos := pos) (env := env) (noStar_hd h).2
    unfold backTo at z
    rw [z]
    rfl
theorem st_any {pos : Pos} {a : Expr} {es : List Expr} {env : Env} (h : noStar (a :: es) = true) : (backTo pos (starEach es env)).any (·.1) = false := st_all (noStar_hd h).2

section
variable {K : PySem.W.Frag} {mg : Str → Option Value} {g : Gd} {B : Hp × Hp} {env : Ev} {S S' : Hp} {σ : L2.St} {H H' : Hp}
/-- only new things: the state stays one -/
theorem Ok.new (k : Ok K mg g B env S σ H) (n : New S H S' H') : Ok K mg g B env S' σ H' where
  frm := k.frm.new n
  len := k.len
  slots := fun i s e => by
    have h := k.slots i s e
    cases s with
    | un => trivial
    | sh d =>
      obtain ⟨v, h1, h2⟩ := h
      exact ⟨v, h1, h2.mono n.ss⟩
    | own l =>
      obtain ⟨a, vs, h1, h2, h3, h4, h5, h6⟩ := h
      refine ⟨a, vs, h1, ?_, h3, h4, n.hh _ _ h5, h6.mono n.ss⟩
      cases q : S' a with
      | none => rfl
      | some o =>
        rcases n.nw a o q with z | z
        · rw [h2] at z
          cases z
        · rw [h5] at z
          cases z
  apart := k.apart
/-- behind a call or a comprehension: all that stood stands -/
theorem Ok.call (k : Ok K mg g B env S σ H) (f : Frm g S H S' H') : Ok K mg g B env S' σ H' where
  frm := k.frm.tr f
  len := k.len
  slots := fun i s e => by
    have h := k.slots i s e
    cases s with
    | un => trivial
    | sh d =>
      obtain ⟨v, h1, h2⟩ := h
      exact ⟨v, h1, h2.mono f.ss⟩
    | own l =>
      obtain ⟨a, vs, h1, h2, h3, h4, h5, h6⟩ := h
      refine ⟨a, vs, h1, ?_, h3, h4, f.fr _ _ h5 h4 (fun ps z => by cases z), h6.mono f.ss⟩
      cases q : S' a with
      | none => rfl
      | some o =>
        rcases f.nw a o q with z | z
        · rw [h2] at z
          cases z
        · exact (z.lst h5).elim
  apart := k.apart
theorem getset {α : Type} {l : List α} {i j : Nat} {x y : α} (h : (l.set i x)[j]? = some y) : (i = j ∧ y = x ∧ i < l.length) ∨ (i ≠ j ∧ l[j]? = some y) := by
  by_cases e : i = j
  · subst e
    by_cases hl : i < l.length
    · rw [List.getElem?_set_self hl] at h
      exact .inl ⟨rfl, (Option.some.inj h).symm, hl⟩
    · rw [List.getElem?_eq_none (by simpa using hl)] at h
      cases h
  · rw [List.getElem?_set_ne e] at h
    exact .inr ⟨e, h⟩
/-- a slot is given plain data -/
theorem Ok.set {d : D} {v : V} (i : Nat) (k : Ok K mg g B env S σ H) (r : Rep K mg g S d v) : Ok K mg g B (env.set i (.sh d)) S (σ.set i (some v)) H where
  frm := k.frm
  len := by rw [List.length_set, List.length_set]; exact k.len
  slots := fun j s e => by
    rcases getset e with ⟨rfl, rfl, hl⟩ | ⟨ne, e⟩
    · exact ⟨v, by rw [List.getElem?_set_self (by rw [← k.len]; exact hl)], r⟩
    · rw [List.getElem?_set_ne ne]
      exact k.slots j s e
  apart := fun p q l m a e1 e2 s1 s2 => by
    rcases getset e1 with ⟨rfl, z, _⟩ | ⟨n1, e1⟩
    · cases z
    rcases getset e2 with ⟨rfl, z, _⟩ | ⟨n2, e2⟩
    · cases z
    rw [List.getElem?_set_ne n1] at s1
    rw [List.getElem?_set_ne n2] at s2
    exact k.apart p q l m a e1 e2 s1 s2
/-- a slot is forgotten -/
theorem Ok.drop (i : Nat) (k : Ok K mg g B env S σ H) : Ok K mg g B (env.set i .un) S σ H where
  frm := k.frm
  len := by rw [List.length_set]; exact k.len
  slots := fun j s e => by
    rcases getset e with ⟨rfl, rfl, hl⟩ | ⟨ne, e⟩
    · trivial
    · exact k.slots j s e
  apart := fun p q l m a e1 e2 s1 s2 => by
    rcases getset e1 with ⟨rfl, z, _⟩ | ⟨n1, e1⟩
    · cases z
    rcases getset e2 with ⟨rfl, z, _⟩ | ⟨n2, e2⟩
    · cases z
    exact k.apart p q l m a e1 e2 s1 s2
/-- a slot that goes out of the frame -/
theorem Ok.gone (i : Nat) (o : Option V) (k : Ok K mg g B env S σ H) : Ok K mg g B (env.set i .un) S (σ.set i o) H where
  frm := k.frm
  len := by rw [List.length_set, List.length_set]; exact k.len
  slots := fun j s e => by
    rcases getset e with ⟨rfl, rfl, hl⟩ | ⟨ne, e⟩
    · trivial
    · rw [List.getElem?_set_ne ne]
      exact k.slots j s e
  apart := fun p q l m a e1 e2 s1 s2 => by
    rcases getset e1 with ⟨rfl, z, _⟩ | ⟨n1, e1⟩
    · cases z
    rcases getset e2 with ⟨rfl, z, _⟩ | ⟨n2, e2⟩
    · cases z
    rw [List.getElem?_set_ne n1] at s1
    rw [List.getElem?_set_ne n2] at s2
    exact k.apart p q l m a e1 e2 s1 s2
@[simp] def kilE : List Nat → Ev → Ev
  | [], env => env
  | i :: r, env => (kilE r env).set i .un
theorem Ok.kil (k : Ok K mg g B env S σ H) : ∀ is : List Nat, Ok K mg g B (kilE is env) S σ H
  | [] => k
  | i :: r => (Ok.kil k r).drop i
theorem Ok.wipe (k : Ok K mg g B env S σ H) : ∀ is : List Nat, Ok K mg g B (kilE is env) S (wipe σ is) H
  | [] => k
  | i :: r => by
    unfold L2.wipe kilE
    exact (Ok.wipe k r).gone i none
/-- a new list, held by a slot alone -/
theorem Ok.own {a : Addr} {vs : List V} {l : List D} (i : Nat) (k : Ok K mg g B env S σ H) (n : H a = none) (r : Reps K mg g S l vs) : Ok K mg g B (env.set i (.own l)) S (σ.set i (some (.ref a))) (upd H a (.lst vs)) where
  frm := k.frm.new (New.hid k.frm.le n)
  len := by rw [List.length_set, List.length_set]; exact k.len
  slots := fun j s e => by
    have w := k.new (New.hid (o := .lst vs) k.frm.le n)
    rcases getset e with ⟨rfl, rfl, hl⟩ | ⟨ne, e⟩
    · refine ⟨a, vs, by rw [List.getElem?_set_self (by rw [← k.len]; exact hl)], k.frm.le.none n, k.frm.al _ n, fun hR => ?_, upd_same, r⟩
      obtain ⟨u, hu, _⟩ := g.dwa _ k.frm.dw a hR
      rw [n] at hu
      cases hu
    · rw [List.getElem?_set_ne ne]
      exact w.slots j s e
  apart := fun p q l' m b e1 e2 s1 s2 => by
    have fresh : ∀ {t : Nat} {m : List D}, env[t]? = some (.own m) → σ[t]? ≠ some (some (.ref a)) := fun {t m} e z => by
      obtain ⟨c, ws, h1, _, _, _, h5, _⟩ := k.slots t _ e
      rw [z] at h1
      have e' : a = c := by simpa using h1
      rw [← e', n] at h5
      cases h5
    rcases getset e1 with ⟨rfl, _, hl⟩ | ⟨n1, e1⟩
    · rcases getset e2 with ⟨rfl, _, _⟩ | ⟨n2, e2⟩
      · rfl
      · rw [List.getElem?_set_self (by rw [← k.len]; exact hl)] at s1
        rw [List.getElem?_set_ne n2] at s2
        have e' : a = b := by simpa using s1
        rw [← e'] at s2
        exact absurd s2 (fresh e2)
    · rw [List.getElem?_set_ne n1] at s1
      rcases getset e2 with ⟨rfl, _, hl⟩ | ⟨n2, e2⟩
      · rw [List.getElem?_set_self (by rw [← k.len]; exact hl)] at s2
        have e' : a = b := by simpa using s2
        rw [← e'] at s1
        exact absurd s1 (fresh e1)
      · rw [List.getElem?_set_ne n2] at s2
        exact k.apart p q l' m b e1 e2 s1 s2
/-- a list that stands, held by a slot alone from now on -/
theorem Ok.take {a : Addr} {vs : List V} {l : List D} (i : Nat) (k : Ok K mg g B env S σ H) (h1 : S a = none) (h2 : Nn B.2 a) (h3 : a ∉ g.R) (h4 : H a = some (.lst vs)) (r : Reps K mg g S l vs)
    (h5 : ∀ (j : Nat) (b : Addr) (m : List D), env[j]? = some (.own m) → σ[j]? = some (some (.ref b)) → b ≠ a) : Ok K mg g B (env.set i (.own l)) S (σ.set i (some (.ref a))) H where
  frm := k.frm
  len := by rw [List.length_set, List.length_set]; exact k.len
  slots := fun j s e => by
    rcases getset e with ⟨rfl, rfl, hl⟩ | ⟨ne, e⟩
    · exact ⟨a, vs, by rw [List.getElem?_set_self (by rw [← k.len]; exact hl)], h1, h2, h3, h4, r⟩
    · rw [List.getElem?_set_ne ne]
      exact k.slots j s e
  apart := fun p q l' m b e1 e2 s1 s2 => by
    rcases getset e1 with ⟨rfl, z1, l1⟩ | ⟨n1, e1⟩
    · rcases getset e2 with ⟨rfl, _, _⟩ | ⟨n2, e2⟩
      · rfl
      · rw [List.getElem?_set_self (by rw [← k.len]; exact l1)] at s1
        rw [List.getElem?_set_ne n2] at s2
        have w : a = b := by simpa using s1
        exact absurd w.symm (h5 _ _ _ e2 s2)
    · rw [List.getElem?_set_ne n1] at s1
      rcases getset e2 with ⟨rfl, _, l2⟩ | ⟨n2, e2⟩
      · rw [List.getElem?_set_self (by rw [← k.len]; exact l2)] at s2
        have w : a = b := by simpa using s2
        exact absurd w.symm (h5 _ _ _ e1 s1)
      · rw [List.getElem?_set_ne n2] at s2
        exact k.apart p q l' m b e1 e2 s1 s2
/-- the list that a slot alone holds is written -/
theorem Ok.wr {a : Addr} {vs : List V} {l l' : List D} {i : Nat} (k : Ok K mg g B env S σ H) (e : env[i]? = some (.own l)) (s : σ[i]? = some (some (.ref a))) (r : Reps K mg g S l' vs) : Ok K mg g B (env.set i (.own l')) S σ (upd H a (.lst vs)) := by
  obtain ⟨a', us, h1, h2, h3, h4, h5, h6⟩ := k.slots i _ e
  rw [s] at h1
  have ea : a = a' := by simpa using h1
  subst ea
  have out : ∀ {b : Addr} {o : HO}, S b = some o → b ≠ a := fun {b o} z q => by
    rw [q, h2] at z
    cases z
  have il : i < env.length := (List.getElem?_eq_some_iff.mp e).1
  refine ⟨⟨k.frm.ss, fun b o z => ?_, fun b o z1 z2 z3 => ?_, fun b z => ?_, k.frm.nw, ?_, k.frm.rs, ?_, k.frm.nt, k.frm.kn⟩, by rw [List.length_set]; exact k.len, fun j s' e' => ?_, fun p q l1 m1 b e1 e2 s1 s2 => ?_⟩
  · rw [upd_ne (out z)]
    exact k.frm.le b o z
  · rw [upd_ne (fun q => by rw [q] at z1; obtain ⟨ps, w⟩ := h3 o z1; exact z3 ps w)]
    exact k.frm.fr b o z1 z2 z3
  · by_cases q : b = a
    · rw [q, upd_same] at z
      cases z
    · rw [upd_ne q] at z
      exact k.frm.al b z
  · exact g.dwk _ _ (fun b hb => upd_ne fun q => h4 (by rw [← q]; exact hb)) k.frm.dw
  · exact tabs_lst k.frm.tb h5
  · rcases getset e' with ⟨rfl, rfl, _⟩ | ⟨ne, e'⟩
    · exact ⟨a, vs, s, h2, h3, h4, upd_same, r⟩
    · have z := k.slots j s' e'
      cases s' with
      | un => trivial
      | sh d => exact z
      | own m =>
        obtain ⟨c, ws, y1, y2, y3, y4, y5, y6⟩ := z
        refine ⟨c, ws, y1, y2, y3, y4, ?_, y6⟩
        rw [upd_ne (fun q => ?_)]
        · exact y5
        · rw [q] at y1
          exact ne (k.apart i j l m a e e' s y1)
  · have own1 : ∃ l2, env[p]? = some (.own l2) := by
      rcases getset e1 with ⟨rfl, _, _⟩ | ⟨_, e1⟩
      · exact ⟨_, e⟩
      · exact ⟨_, e1⟩
    have own2 : ∃ l2, env[q]? = some (.own l2) := by
      rcases getset e2 with ⟨rfl, _, _⟩ | ⟨_, e2⟩
      · exact ⟨_, e⟩
      · exact ⟨_, e2⟩
    obtain ⟨l2, o1⟩ := own1
    obtain ⟨m2, o2⟩ := own2
    exact k.apart p q l2 m2 b o1 o2 s1 s2
end

/-! ### expressions -/
@[simp] def eVar (i : Nat) : EM := fun env P _ => match env[i]? with
  | some (.sh d) => P d
  | _ => False
@[simp] def eC (d : D) : EM := fun _ P _ => P d
@[simp] def e1 (f : D → W D) (a : EM) : EM := fun env P Z => a env (fun x => f x P Z) Z
@[simp] def e2 (f : D → D → W D) (a b : EM) : EM := fun env P Z => a env (fun x => b env (fun y => f x y P Z) Z) Z
@[simp] def eIf (c : Ev → W Bool) (a b : EM) : EM := fun env P Z => c env (fun k => if k = true then a env P Z else b env P Z) Z
@[simp] def aNil : Ev → W (List D) := fun _ P _ => P []
@[simp] def aCons (a : EM) (r : Ev → W (List D)) : Ev → W (List D) := fun env P Z => a env (fun x => r env (fun xs => P (x :: xs)) Z) Z
@[simp] def eA (f : List D → W D) (a : Ev → W (List D)) : EM := fun env P Z => a env (fun xs => f xs P Z) Z
@[simp] def tru : D → Option Bool
  | .non => some false
  | .bl b => some b
  | .int i => some (i != 0)
  | .str x => if x.length ≤ 16777216 then some ((x.length : Int) != 0) else none
  | .tup l => some (!l.isEmpty)
  | .lst l => some (!l.isEmpty)
  | _ => none
@[simp] def tTru (a : EM) : Ev → W Bool := fun env P Z => a env (fun x => match tru x with
  | some k => P k
  | none => False) Z
@[simp] def tNt (c : Ev → W Bool) : Ev → W Bool := fun env P Z => c env (fun k => P (!k)) Z
@[simp] def tAn (c d : Ev → W Bool) : Ev → W Bool := fun env P Z => c env (fun k => if k = true then d env P Z else P false) Z
@[simp] def tOo (c d : Ev → W Bool) : Ev → W Bool := fun env P Z => c env (fun k => if k = true then P true else d env P Z) Z
@[simp] def eAnd (a b : EM) : EM := fun env P Z => a env (fun x => match tru x with
  | some k => if k = true then b env P Z else P x
  | none => False) Z
@[simp] def eOr (a b : EM) : EM := fun env P Z => a env (fun x => match tru x with
  | some k => if k = true then P x else b env P Z
  | none => False) Z
@[simp] def eNot (a : EM) : EM := fun env P Z => a env (fun x => match tru x with
  | some k => P (.bl (!k))
  | none => False) Z
@[simp] def eTup (a : Ev → W (List D)) : EM := fun env P Z => a env (fun xs => xs.length ≤ 16777216 ∧ P (.tup xs)) Z
@[simp] def eLst (a : Ev → W (List D)) : EM := fun env P Z => a env (fun xs => xs.length ≤ 16777216 ∧ P (.lst xs)) Z

/-- an operation upon values: by a reading of the hand layer -/
def Op2 (X : Cx) (g : Gd) (f : D → D → W D) (r : R2) : Prop := ∀ (a b : D) (x y : V) (B : Hp × Hp) (S H : Hp) (P : D → Prop) (Z : D → Prop) (Q : VK), Frm g B.1 B.2 S H → Rep X.K X.mg g S a x → Rep X.K X.mg g S b y → f a b P Z →
  (∀ d v S' H', P d → New S H S' H' → Rep X.K X.mg g S' d v → Q v H') → r x y H Q
def Op1 (X : Cx) (g : Gd) (f : D → W D) (r : V → Hp → VK → Prop) : Prop := ∀ (a : D) (x : V) (B : Hp × Hp) (S H : Hp) (P : D → Prop) (Z : D → Prop) (Q : VK), Frm g B.1 B.2 S H → Rep X.K X.mg g S a x → f a P Z →
  (∀ d v S' H', P d → New S H S' H' → Rep X.K X.mg g S' d v → Q v H') → r x H Q
def OpA (X : Cx) (g : Gd) (f : List D → W D) (r : List V → Hp → VK → Prop) : Prop := ∀ (as : List D) (xs : List V) (B : Hp × Hp) (S H : Hp) (P : D → Prop) (Z : D → Prop) (Q : VK), Frm g B.1 B.2 S H → Reps X.K X.mg g S as xs → f as P Z →
  (∀ d v S' H', P d → New S H S' H' → Rep X.K X.mg g S' d v → Q v H') → r xs H Q

section
variable {X : Cx} {g : Gd} {B : Hp × Hp} {E : XK} {a b c : Expr} {pos : Pos} {ma mb : EM} {mc md : Ev → W Bool} {ml : Ev → W (List D)} {es : List Expr}
theorem de_var {i : Nat} {x : Str} (hN : X.N[i]? = some x := by rfl) (hv : Vis X.env.scope x := by first | exact Or.inl rfl | exact Or.inr (Or.inl rfl) | exact Or.inr (Or.inr rfl)) (hd : (x == ("__debug__" : Str)) = false := by decide)
    (hcd : (x == ("__classdict__" : Str)) = false := by decide) : DE X g B E (.Name x pos) (eVar i) := by
  refine pe_imp (pe_var (i := i) hN hv hd hcd) fun σ H Q h => ?_
  obtain ⟨env, S, P, Z, ok, hm, k, kx⟩ := h
  unfold eVar at hm
  cases e : env[i]? with
  | none =>
    rw [e] at hm
    exact hm.elim
  | some s =>
    rw [e] at hm
    have q := ok.slots i s e
    cases s with
    | un => exact hm.elim
    | own l => exact hm.elim
    | sh d =>
      obtain ⟨v, h1, h2⟩ := q
      exact ⟨v, h1, k d v S H hm ok (Ex.rf _) h2⟩
theorem de_c {d : D} {v : V} {e : Expr} (h : PE X e (tC v)) (r : ∀ S, Rep X.K X.mg g S d v) : DE X g B E e (eC d) := by
  refine pe_imp h fun σ H Q h => ?_
  obtain ⟨env, S, P, Z, ok, hm, k, kx⟩ := h
  exact k d v S H hm ok (Ex.rf _) (r S)
theorem de_int {i : Int} {j : Nat} : DE X g B E (.Constant (.int i) j pos) (eC (.int i)) := de_c pe_int fun S => by unfold Rep; rfl
theorem de_bl {i : Bool} {j : Nat} : DE X g B E (.Constant (.bool i) j pos) (eC (.bl i)) := de_c pe_bl fun S => by unfold Rep; rfl
theorem de_non {j : Nat} : DE X g B E (.Constant .none j pos) (eC .non) := de_c pe_non fun S => by unfold Rep; rfl
theorem de_str {x : Str} {j : Nat} : DE X g B E (.Constant (.str x) j pos) (eC (.str x)) := de_c pe_str fun S => by unfold Rep; rfl
/-- a def of the module as a value -/
theorem de_fn {x : Str} {f : Addr} (hg : Gl X x) (hm : X.mg x = some (.ref f)) (hd : (x == ("__debug__" : Str)) = false := by decide) : DE X g B E (.Name x pos) (eC (.fn x)) :=
  de_c (pe_glob (v := .ref f) hg hm rfl hd) fun S => by unfold Rep; exact ⟨f, rfl, hm⟩
/-- an int of the module -/
theorem de_gi {x : Str} {i : Int} {t : Tok} (hg : Gl X x) (hm : X.mg x = some (.int i t)) (hd : (x == ("__debug__" : Str)) = false := by decide) : DE X g B E (.Name x pos) (eC (.int i)) :=
  de_c (pe_glob (v := .int i) hg hm ⟨t, rfl⟩ hd) fun S => by unfold Rep; rfl
theorem run2 {f : D → D → W D} {r : R2} (hf : Op2 X g f r) {σ : L2.St} {H : Hp} {Q : VK} (h : clo X g B E (e2 f ma mb) σ H Q) : tOp r (clo X g B E ma) (clo X g B E mb) σ H Q := by
  obtain ⟨env, S, P, Z, ok, hm, k, kx⟩ := h
  refine ⟨env, S, _, Z, ok, hm, fun da x S1 H1 p1 ok1 e1 r1 => ?_, kx⟩
  refine ⟨env, S1, _, Z, ok1, p1, fun db y S2 H2 p2 ok2 e2 r2 => ?_, kx⟩
  exact hf da db x y B S2 H2 P Z Q ok2.frm (r1.mono e2) r2 p2 fun d v S3 H3 p3 n r3 => k d v S3 H3 p3 (ok2.new n) ((e1.tr e2).tr n.ss) r3
theorem de_op {op : Operator} {f : D → D → W D} {r : R2} (ho : OpR X (binaryOp op) r) (hf : Op2 X g f r) (ha : DE X g B E a ma) (hb : DE X g B E b mb) : DE X g B E (.BinOp a op b pos) (e2 f ma mb) :=
  pe_imp (pe_op ho ha hb) fun _ _ _ h => run2 hf h
theorem de_cmp {op : CmpOp} {f : D → D → W D} {r : R2} (ho : OpR X (compareOp op) r) (hf : Op2 X g f r) (ha : DE X g B E a ma) (hb : DE X g B E b mb) (hm : behindInMarks op b = false := by first | exact nomark _ (by decide) (by decide) | rfl) :
    DE X g B E (.Compare a [op] [b] pos) (e2 f ma mb) := pe_imp (pe_cmpR ho ha hb hm) fun _ _ _ h => run2 hf h
theorem de_un {op : UnaryOp} {f : D → W D} {r : V → Hp → VK → Prop} (ho : UnR X (unaryOp op) r) (hf : Op1 X g f r) (ha : DE X g B E a ma) : DE X g B E (.UnaryOp op a pos) (e1 f ma) := by
  refine pe_imp (pe_un ho ha) fun σ H Q h => ?_
  obtain ⟨env, S, P, Z, ok, hm, k, kx⟩ := h
  exact ⟨env, S, _, Z, ok, hm, fun da x S1 H1 p1 ok1 e1 r1 => hf da x B S1 H1 P Z Q ok1.frm r1 p1 fun d v S3 H3 p3 n r3 => k d v S3 H3 p3 (ok1.new n) (e1.tr n.ss) r3, kx⟩
theorem dt_of {e : Expr} {t : TE} {ts : TT} {m : EM} (hp : PT X e ts) (hi : ∀ σ H (Q : Bool → Hp → Prop), clo X g B E m σ H (fun v H' => ∃ k, v = .bl k ∧ Q k H') → ts σ H Q) : DT X g B E e (fun env P Z => m env (fun d => match d with
  | .bl k => P k
  | _ => False) Z) := by
  refine pt_imp hp fun σ H Q h => hi σ H Q ?_
  obtain ⟨env, S, P, Z, ok, hm, k, kx⟩ := h
  refine ⟨env, S, _, Z, ok, hm, fun d v S' H' p ok' ex r => ?_, kx⟩
  cases d <;> first
    | exact p.elim
    | (unfold Rep at r; exact ⟨_, r, k _ S' H' p ok' ex⟩)
@[simp] def tBo (a : EM) : Ev → W Bool := fun env P Z => a env (fun d => match d with
  | .bl k => P k
  | _ => False) Z
theorem dt_cmp {op : CmpOp} {f : D → D → W D} {r : R2} (ho : OpR X (compareOp op) r) (hf : Op2 X g f r) (ha : DE X g B E a ma) (hb : DE X g B E b mb) (hm : behindInMarks op b = false := by first | exact nomark _ (by decide) (by decide) | rfl) :
    DT X g B E (.Compare a [op] [b] pos) (tBo (e2 f ma mb)) := dt_of (t := clo X g B E (e2 f ma mb)) (pt_cmpR ho ha hb hm) fun _ _ _ h => run2 hf h
theorem truV_of {S H : Hp} {d : D} {v : V} {k : Bool} (l : Le S H) (r : Rep X.K X.mg g S d v) (e : tru d = some k) : TruV X.K v H k := by
  cases d with
  | non =>
    unfold Rep at r
    subst r
    exact (Option.some.inj e).symm
  | bl b =>
    unfold Rep at r
    subst r
    exact (Option.some.inj e).symm
  | int i =>
    unfold Rep at r
    subst r
    exact (Option.some.inj e).symm
  | str x =>
    unfold Rep at r
    subst r
    have e' : (if x.length ≤ 16777216 then some ((x.length : Int) != 0) else none) = some k := e
    by_cases h : x.length ≤ 16777216
    · rw [if_pos h] at e'
      exact ⟨by rw [sizeLine_eq]; exact h, (Option.some.inj e').symm⟩
    · rw [if_neg h] at e'
      cases e'
  | tup l' =>
    unfold Rep at r
    obtain ⟨p, vs, rfl, h2, h3⟩ := r
    refine .inr (.inl ⟨vs, l.sqT h2, ?_⟩)
    rw [← Option.some.inj e]
    have z := h3.len
    cases l' <;> cases vs <;> first | rfl | (simp at z)
  | lst l' =>
    unfold Rep at r
    obtain ⟨p, vs, rfl, h2, h3⟩ := r
    refine .inl ⟨vs, l.sqL (SqL.of h2), ?_⟩
    rw [← Option.some.inj e]
    have z := h3.len
    cases l' <;> cases vs <;> first | rfl | (simp at z)
  | fn x => cases e
  | ty x => cases e
  | exc x ns ds => cases e
  | ins x ns ds => cases e
  | dic ks ws => cases e
  | drw => cases e
  | scr l => cases e
theorem dt_tru (ha : DE X g B E a ma) (he : ∀ whole, isTrue a X.env whole = (do let v ← whole; standAt a.pos; holding [v] (truthy v)) := by intro _; rfl) : DT X g B E a (tTru ma) := by
  refine pt_imp (pt_truth ha he) fun σ H Q h => ?_
  obtain ⟨env, S, P, Z, ok, hm, k, kx⟩ := h
  refine ⟨env, S, _, Z, ok, hm, fun d v S' H' p ok' ex r => ?_, kx⟩
  cases e : tru d with
  | none =>
    rw [e] at p
    exact p.elim
  | some kk =>
    rw [e] at p
    exact ⟨kk, truV_of ok'.frm.le r e, k kk S' H' p ok' ex⟩
theorem dt_not (h : DT X g B E a mc) : DT X g B E (.UnaryOp .Not a pos) (tNt mc) := by
  refine pt_imp (pt_not h) fun σ H Q h => ?_
  obtain ⟨env, S, P, Z, ok, hm, k, kx⟩ := h
  exact ⟨env, S, _, Z, ok, hm, fun b S' H' p ok' ex => k _ S' H' p ok' ex, kx⟩
def DW (X : Cx) (g : Gd) (B : Hp × Hp) (E : XK) (e : Expr) (m : Ev → W Bool) : Prop := PW X e (cloT X g B E m)
theorem pw_imp {X : Cx} {e : Expr} {t u : TT} (h : PW X e t) (i : ∀ σ H Q, u σ H Q → t σ H Q) : PW X e u := ⟨fun w pins s σ H Q I q => h.run w pins s σ H Q I (i σ H Q q)⟩
theorem dw_t (h : DW X g B E a mc) : DT X g B E a mc := h.pt
theorem dw_and1 (h : DT X g B E a mc) : DW X g B E (.BoolOp .And [a] pos) mc := pw_and1 h
theorem dw_or1 (h : DT X g B E a mc) : DW X g B E (.BoolOp .Or [a] pos) mc := pw_or1 h
theorem dw_and {r : List Expr} (h : DT X g B E a mc) (h2 : DW X g B E (.BoolOp .And (b :: r) pos) md) : DW X g B E (.BoolOp .And (a :: b :: r) pos) (tAn mc md) := by
  refine pw_imp (pw_and h h2) fun σ H Q h => ?_
  obtain ⟨env, S, P, Z, ok, hm, k, kx⟩ := h
  refine ⟨env, S, _, Z, ok, hm, fun b S' H' p ok' ex => ?_, kx⟩
  cases b with
  | true => exact ⟨env, S', P, Z, ok', p, fun c S2 H2 p2 ok2 ex2 => k c S2 H2 p2 ok2 (ex.tr ex2), kx⟩
  | false => exact k false S' H' p ok' ex
theorem dw_or {r : List Expr} (h : DT X g B E a mc) (h2 : DW X g B E (.BoolOp .Or (b :: r) pos) md) : DW X g B E (.BoolOp .Or (a :: b :: r) pos) (tOo mc md) := by
  refine pw_imp (pw_or h h2) fun σ H Q h => ?_
  obtain ⟨env, S, P, Z, ok, hm, k, kx⟩ := h
  refine ⟨env, S, _, Z, ok, hm, fun b S' H' p ok' ex => ?_, kx⟩
  cases b with
  | false => exact ⟨env, S', P, Z, ok', p, fun c S2 H2 p2 ok2 ex2 => k c S2 H2 p2 ok2 (ex.tr ex2), kx⟩
  | true => exact k true S' H' p ok' ex
theorem de_one {op : PySem.BoolOp} (h : DE X g B E a ma) : DE X g B E (.BoolOp op [a] pos) ma := pe_one h
theorem de_and {r : List Expr} (ha : DE X g B E a ma) (hb : DE X g B E (.BoolOp .And (b :: r) pos) mb) : DE X g B E (.BoolOp .And (a :: b :: r) pos) (eAnd ma mb) := by
  refine pe_imp (pe_andT ha hb) fun σ H Q h => ?_
  obtain ⟨env, S, P, Z, ok, hm, k, kx⟩ := h
  refine ⟨env, S, _, Z, ok, hm, fun d v S' H' p ok' ex r => ?_, kx⟩
  cases e : tru d with
  | none =>
    rw [e] at p
    exact p.elim
  | some kk =>
    rw [e] at p
    refine ⟨kk, truV_of ok'.frm.le r e, ?_⟩
    cases kk with
    | true => exact ⟨env, S', P, Z, ok', p, fun c w S2 H2 p2 ok2 ex2 r2 => k c w S2 H2 p2 ok2 (ex.tr ex2) r2, kx⟩
    | false => exact k d v S' H' p ok' ex r
theorem de_or {r : List Expr} (ha : DE X g B E a ma) (hb : DE X g B E (.BoolOp .Or (b :: r) pos) mb) : DE X g B E (.BoolOp .Or (a :: b :: r) pos) (eOr ma mb) := by
  refine pe_imp (pe_orT ha hb) fun σ H Q h => ?_
  obtain ⟨env, S, P, Z, ok, hm, k, kx⟩ := h
  refine ⟨env, S, _, Z, ok, hm, fun d v S' H' p ok' ex r => ?_, kx⟩
  cases e : tru d with
  | none =>
    rw [e] at p
    exact p.elim
  | some kk =>
    rw [e] at p
    refine ⟨kk, truV_of ok'.frm.le r e, ?_⟩
    cases kk with
    | false => exact ⟨env, S', P, Z, ok', p, fun c w S2 H2 p2 ok2 ex2 r2 => k c w S2 H2 p2 ok2 (ex.tr ex2) r2, kx⟩
    | true => exact k d v S' H' p ok' ex r
theorem de_not (ha : DE X g B E a ma) : DE X g B E (.UnaryOp .Not a pos) (eNot ma) := by
  refine pe_imp (pe_notT ha) fun σ H Q h => ?_
  obtain ⟨env, S, P, Z, ok, hm, k, kx⟩ := h
  refine ⟨env, S, _, Z, ok, hm, fun d v S' H' p ok' ex r => ?_, kx⟩
  cases e : tru d with
  | none =>
    rw [e] at p
    exact p.elim
  | some kk =>
    rw [e] at p
    exact ⟨kk, truV_of ok'.frm.le r e, k (.bl (!kk)) _ S' H' p ok' ex (by unfold Rep; rfl)⟩
theorem de_if (hc : DT X g B E c mc) (ha : DE X g B E a ma) (hb : DE X g B E b mb) : DE X g B E (.IfExp c a b pos) (eIf mc ma mb) := by
  refine pe_imp (pe_ifExp hc ha hb) fun σ H Q h => ?_
  obtain ⟨env, S, P, Z, ok, hm, k, kx⟩ := h
  refine ⟨env, S, _, Z, ok, hm, fun b S' H' p ok' ex => ?_, kx⟩
  cases b with
  | true => exact ⟨env, S', P, Z, ok', p, fun c w S2 H2 p2 ok2 ex2 r2 => k c w S2 H2 p2 ok2 (ex.tr ex2) r2, kx⟩
  | false => exact ⟨env, S', P, Z, ok', p, fun c w S2 H2 p2 ok2 ex2 r2 => k c w S2 H2 p2 ok2 (ex.tr ex2) r2, kx⟩
theorem da_nil : DAr X g B E [] aNil := pa_imp pa_nil fun σ H Q h => by
  obtain ⟨env, S, P, Z, ok, hm, k, kx⟩ := h
  exact k [] [] S H hm ok (Ex.rf _) Reps.nil
theorem da_cons (ha : DE X g B E a ma) (hr : DAr X g B E es ml) (hs : isStar a = false := by rfl) : DAr X g B E (a :: es) (aCons ma ml) := by
  refine pa_imp (pa_cons ha hr (st_one hs)) fun σ H Q h => ?_
  obtain ⟨env, S, P, Z, ok, hm, k, kx⟩ := h
  refine ⟨env, S, _, Z, ok, hm, fun d v S' H' p ok' ex r => ?_, kx⟩
  exact ⟨env, S', _, Z, ok', p, fun ds vs S2 H2 p2 ok2 ex2 r2 => k _ _ S2 H2 p2 ok2 (ex.tr ex2) (Reps.cons (r.mono ex2) r2), kx⟩
theorem de_tup {x1 : Nat} (h : DAr X g B E es ml) : DE X g B E (.Tuple es x1 pos) (eTup ml) := by
  refine pe_imp (pe_tup h) fun σ H Q h => ?_
  obtain ⟨env, S, P, Z, ok, hm, k, kx⟩ := h
  refine ⟨env, S, _, Z, ok, hm, fun ds vs S' H' p ok' ex r => ?_, kx⟩
  obtain ⟨hl, p⟩ := p
  refine ⟨by rw [← r.len, sizeLine_eq]; exact hl, fun q hq => ?_⟩
  have n := New.add (o := .tup vs) ok'.frm.le hq (fun ps z => by cases z)
  exact k (.tup ds) _ _ _ p (ok'.new n) (ex.tr n.ss) (by unfold Rep; exact ⟨q, vs, rfl, SqT.of upd_same, r.mono n.ss⟩)
theorem de_lst (h : DAr X g B E es ml) : DE X g B E (.List es pos) (eLst ml) := by
  refine pe_imp (pe_lst h) fun σ H Q h => ?_
  obtain ⟨env, S, P, Z, ok, hm, k, kx⟩ := h
  refine ⟨env, S, _, Z, ok, hm, fun ds vs S' H' p ok' ex r => ?_, kx⟩
  obtain ⟨hl, p⟩ := p
  refine ⟨by rw [← r.len, sizeLine_eq]; exact hl, fun q hq => ?_⟩
  have n := New.add (o := .lst vs) ok'.frm.le hq (fun ps z => by cases z)
  exact k (.lst ds) _ _ _ p (ok'.new n) (ex.tr n.ss) (by unfold Rep; exact ⟨q, vs, rfl, upd_same, r.mono n.ss⟩)
/-- a built-in function, by its name -/
theorem de_b {x : Str} {p : Pos} {id : String} {f : List D → W D} {r : List V → Hp → VK → Prop} (hc : CallR X (.builtin id) r) (hf : OpA X g f r) (hg : Gl X x) (hm : X.mg x = none) (hv : bootBuiltins x = some (.builtin id)) (ha : DAr X g B E (a :: es) ml)
    (hn : x ≠ "__name__" := by decide) (hdb : (x == ("__debug__" : Str)) = false := by decide)
    (hst : noStar (a :: es) = true := by rfl) : DE X g B E (.Call (.Name x p) (a :: es) [] pos) (eA f ml) := by
  refine pe_imp (pe_callB hc hg hm hv ha hn hdb (st_cons hst) (st_any hst)) fun σ H Q h => ?_
  obtain ⟨env, S, P, Z, ok, hm, k, kx⟩ := h
  exact ⟨env, S, _, Z, ok, hm, fun ds vs S' H' p ok' ex r => hf ds vs B S' H' P Z Q ok'.frm r p fun d v S3 H3 p3 n r3 => k d v S3 H3 p3 (ok'.new n) (ex.tr n.ss) r3, kx⟩
theorem de_ty {x : Str} {p : Pos} {T : String} {f : List D → W D} {r : List V → Hp → VK → Prop} (hc : CallR X (.type T) r) (hf : OpA X g f r) (hg : Gl X x) (hm : X.mg x = none) (hv : bootBuiltins x = some (.type T)) (ha : DAr X g B E (a :: es) ml)
    (hn : x ≠ "__name__" := by decide) (hdb : (x == ("__debug__" : Str)) = false := by decide)
    (hst : noStar (a :: es) = true := by rfl) : DE X g B E (.Call (.Name x p) (a :: es) [] pos) (eA f ml) := by
  refine pe_imp (pe_callTy hc hg hm hv ha hn hdb (st_cons hst) (st_any hst)) fun σ H Q h => ?_
  obtain ⟨env, S, P, Z, ok, hm, k, kx⟩ := h
  exact ⟨env, S, _, Z, ok, hm, fun ds vs S' H' p ok' ex r => hf ds vs B S' H' P Z Q ok'.frm r p fun d v S3 H3 p3 n r3 => k d v S3 H3 p3 (ok'.new n) (ex.tr n.ss) r3, kx⟩
end
end DL

set_option Elab.async false
set_option linter.all false
set_option maxRecDepth 100000
set_option maxHeartbeats 2000000
/-! DC: what is walked; comprehensions; statements; loops. -/
namespace DL
open PySem PySem.Spec PyProof.Rows L2

/-! ### frames, further -/
section
variable {g : Gd} {S0 H0 S H S' H' : Hp} {D : Addr}
theorem notR {H : Hp} (d : g.dw H) {a : Addr} (n : H a = none) : a ∉ g.R := fun h => by
  obtain ⟨u, hu, _⟩ := g.dwa _ d a h
  rw [n] at hu
  cases hu
theorem Frm.wr {us vs : List V} (f : Frm g S0 H0 S H) (h1 : S D = none) (h2 : Nn H0 D) (h3 : D ∉ g.R) (h4 : H D = some (.lst us)) : Frm g S0 H0 S (upd H D (.lst vs)) where
  ss := f.ss
  le := fun b o z => by
    rw [upd_ne (fun q => by rw [q, h1] at z; cases z)]
    exact f.le b o z
  fr := fun b o z1 z2 z3 => by
    rw [upd_ne (fun q => by rw [q] at z1; obtain ⟨ps, w⟩ := h2 o z1; exact z3 ps w)]
    exact f.fr b o z1 z2 z3
  al := fun b z => by
    by_cases q : b = D
    · rw [q, upd_same] at z
      cases z
    · rw [upd_ne q] at z
      exact f.al b z
  nw := f.nw
  dw := g.dwk _ _ (fun b hb => upd_ne fun q => h3 (by rw [← q]; exact hb)) f.dw
  rs := f.rs
  tb := tabs_lst f.tb h4
  nt := f.nt
  kn := f.kn
/-- a new object of ours is known for good from now on -/
theorem Frm.adopt {o : HO} (f : Frm g S0 H0 S H) (h1 : S D = none) (h2 : Nn H0 D) (h3 : D ∉ g.R) (h4 : H D = some o) (h5 : ∀ ps, o ≠ .tbl ps) : Frm g S0 H0 (upd S D o) H where
  ss := fun b u z => by
    rw [upd_ne (fun q => by rw [q] at z; have := f.ss _ _ z; rw [h1] at this; cases this)]
    exact f.ss b u z
  le := fun b u z => by
    by_cases q : b = D
    · rw [q, upd_same] at z
      rw [q]
      exact .inl (by rw [← z]; exact h4)
    · rw [upd_ne q] at z
      exact f.le b u z
  fr := f.fr
  al := f.al
  nw := fun b u z => by
    by_cases q : b = D
    · rw [q]
      exact .inr h2
    · rw [upd_ne q] at z
      exact f.nw b u z
  dw := f.dw
  rs := fun b hb => by
    rw [upd_ne (fun q => h3 (by rw [← q]; exact hb))]
    exact f.rs b hb
  tb := f.tb
  nt := fun b ps z => by
    by_cases q : b = D
    · rw [q, upd_same] at z
      exact h5 ps (Option.some.inj z)
    · rw [upd_ne q] at z
      exact f.nt b ps z
  kn := fun b u z => by
    have y := f.kn b u z
    rw [upd_ne (fun q => by rw [q, h1] at y; cases y)]
    exact y
end

/-! ### a comprehension's slots -/
@[simp] def noOwn : Slot → Slot
  | .own _ => .un
  | s => s
@[simp] def blkE (own : List Nat) (env : Ev) : Ev := kilE own (env.map noOwn)
theorem wipe_get {σ : L2.St} (i : Nat) : ∀ vs : List Nat, (L2.wipe σ vs)[i]? = if i ∈ vs ∧ i < σ.length then some none else σ[i]?
  | [] => by
    unfold L2.wipe
    rw [if_neg (fun h => by simpa using h.1)]
  | v :: r => by
    unfold L2.wipe
    by_cases hv : v = i
    · subst hv
      by_cases hl : v < σ.length
      · rw [List.getElem?_set_self (by rw [wipe_length]; exact hl), if_pos ⟨List.mem_cons_self, hl⟩]
      · rw [if_neg (fun h => hl h.2), List.getElem?_eq_none (by rw [List.length_set, wipe_length]; omega), List.getElem?_eq_none (by omega)]
    · rw [List.getElem?_set_ne hv, wipe_get i r]
      by_cases h : i ∈ r ∧ i < σ.length
      · rw [if_pos h, if_pos ⟨List.mem_cons_of_mem _ h.1, h.2⟩]
      · rw [if_neg h, if_neg (fun z => h ⟨(List.mem_cons.mp z.1).resolve_left (fun q => hv q.symm), z.2⟩)]
theorem wipe_same {σ τ : L2.St} {vs : List Nat} (h : ∀ i, i ∉ vs → τ[i]? = (L2.wipe σ vs)[i]?) (hl : τ.length = (L2.wipe σ vs).length) : L2.wipe τ vs = L2.wipe σ vs := by
  apply List.ext_getElem?
  intro i
  rw [wipe_get]
  rw [wipe_length] at hl
  by_cases q : i ∈ vs
  · by_cases z : i < σ.length
    · rw [if_pos ⟨q, by omega⟩, wipe_get, if_pos ⟨q, z⟩]
    · rw [if_neg (fun y => z (by have := y.2; omega)), wipe_get, if_neg (fun y => z y.2), List.getElem?_eq_none (by omega), List.getElem?_eq_none (by omega)]
  · rw [if_neg (fun y => q y.1)]
    exact h i q
section
variable {K : PySem.W.Frag} {mg : Str → Option Value} {g : Gd} {B : Hp × Hp} {env : Ev} {S S' : Hp} {σ : L2.St} {H H' : Hp}
theorem Ok.noOwn (k : Ok K mg g B env S σ H) : Ok K mg g (S, H) (env.map DL.noOwn) S σ H where
  frm := k.frm.rf
  len := by rw [List.length_map]; exact k.len
  slots := fun i s e => by
    rw [List.getElem?_map] at e
    cases q : env[i]? with
    | none =>
      rw [q] at e
      cases e
    | some t =>
      rw [q] at e
      have e' : DL.noOwn t = s := by simpa using e
      subst e'
      have z := k.slots i t q
      cases t with
      | un => trivial
      | own l => trivial
      | sh d => exact z
  apart := fun i j l m a e _ _ _ => by
    rw [List.getElem?_map] at e
    cases q : env[i]? with
    | none =>
      rw [q] at e
      cases e
    | some t =>
      rw [q] at e
      have e' : DL.noOwn t = .own l := by simpa using e
      cases t <;> cases e'
theorem Ok.blk (k : Ok K mg g B env S σ H) (own : List Nat) : Ok K mg g (S, H) (blkE own env) S (L2.wipe σ own) H := k.noOwn.wipe own
end

/-! ### targets -/
structure TgOk (X : Cx) (g : Gd) (gT : TG) (T : D → Ev → Option Ev) (vs : List Nat) : Prop where
  run : ∀ (B : Hp × Hp) (d : D) (x : V) (σ : L2.St) (H : Hp) (env env' : Ev) (S : Hp) (Q : L2.St → Hp → Prop), Ok X.K X.mg g B env S σ H → Rep X.K X.mg g S d x → T d env = some env' →
    (∀ σ', Ok X.K X.mg g B env' S σ' H → (∀ i, i ∉ vs → σ'[i]? = σ[i]?) → σ'.length = σ.length → Q σ' H) → gT x σ H Q
@[simp] def tgN (i : Nat) : D → Ev → Option Ev := fun d env => some (env.set i (.sh d))
@[simp] def tg2 (i j : Nat) : D → Ev → Option Ev := fun d env => match d with
  | .tup [a, b] => some ((env.set i (.sh a)).set j (.sh b))
  | _ => none
@[simp] def tg3 (i j k : Nat) : D → Ev → Option Ev := fun d env => match d with
  | .tup [a, b, c] => some (((env.set i (.sh a)).set j (.sh b)).set k (.sh c))
  | _ => none
section
variable {X : Cx} {g : Gd}
theorem tgN_ok (i : Nat) : TgOk X g (gName i) (tgN i) [i] := ⟨fun B d x σ H env env' S Q ok r e h => by
  have e' := Option.some.inj e
  subst e'
  exact h _ (ok.set i r) (fun j hj => by rw [List.getElem?_set_ne (fun q => hj (by rw [q]; exact List.mem_singleton.mpr rfl))]) (by rw [List.length_set])⟩
theorem tg2_ok (i j : Nat) : TgOk X g (gTup X.K 2 (gCons (gName i) (gCons (gName j) gNil))) (tg2 i j) [i, j] := ⟨fun B d x σ H env env' S Q ok r e h => by
  unfold tg2 at e
  split at e
  · rename_i a b
    have e' := Option.some.inj e
    subst e'
    unfold Rep at r
    obtain ⟨p, vs, h1, h2, h3⟩ := r
    unfold Reps at h3
    obtain ⟨w, ws, rfl, r1, h3⟩ := h3
    unfold Reps at h3
    obtain ⟨w2, ws2, rfl, r2, h3⟩ := h3
    unfold Reps at h3
    subst h3
    refine ⟨p, [w, w2], h1, ok.frm.le.sqT h2, rfl, w, [w2], rfl, w2, [], rfl, rfl, ?_⟩
    refine h _ ((ok.set i r1).set j r2) (fun k hk => ?_) (by rw [List.length_set, List.length_set])
    rw [List.getElem?_set_ne (fun q => hk (by rw [q]; simp)), List.getElem?_set_ne (fun q => hk (by rw [q]; simp))]
  · cases e⟩
theorem tg3_ok (i j k : Nat) : TgOk X g (gTup X.K 3 (gCons (gName i) (gCons (gName j) (gCons (gName k) gNil)))) (tg3 i j k) [i, j, k] := ⟨fun B d x σ H env env' S Q ok r e h => by
  unfold tg3 at e
  split at e
  · rename_i a b c
    have e' := Option.some.inj e
    subst e'
    unfold Rep at r
    obtain ⟨p, vs, h1, h2, h3⟩ := r
    unfold Reps at h3
    obtain ⟨w, ws, rfl, r1, h3⟩ := h3
    unfold Reps at h3
    obtain ⟨w2, ws2, rfl, r2, h3⟩ := h3
    unfold Reps at h3
    obtain ⟨w3, ws3, rfl, r3, h3⟩ := h3
    unfold Reps at h3
    subst h3
    refine ⟨p, [w, w2, w3], h1, ok.frm.le.sqT h2, rfl, w, [w2, w3], rfl, w2, [w3], rfl, w3, [], rfl, rfl, ?_⟩
    refine h _ (((ok.set i r1).set j r2).set k r3) (fun n hn => ?_) (by rw [List.length_set, List.length_set, List.length_set])
    rw [List.getElem?_set_ne (fun q => hn (by rw [q]; simp)), List.getElem?_set_ne (fun q => hn (by rw [q]; simp)), List.getElem?_set_ne (fun q => hn (by rw [q]; simp))]
  · cases e⟩
end

/-! ### what is walked -/
/-- J yields what stands for ds, one after the other, wherever the stable part still lies -/
def ItOk (K : PySem.W.Frag) (mg : Str → Option Value) (g : Gd) (S : Hp) (J : It) (ds : List D) : Prop := ∀ (i : Nat) (S2 H2 : Hp), Ex S S2 → Le S2 H2 →
  (∀ d, ds[i]? = some d → J.go i H2 ∧ ∀ x H3, J.yld i H2 x H3 → ∃ S3, New S2 H2 S3 H3 ∧ Rep K mg g S3 d x) ∧ (ds[i]? = none → J.stop i H2)
section
variable (X : Cx) (g : Gd) (B : Hp × Hp) (E : XK)
def cloI (m : Ev → W (List D)) : TI := fun σ H R => ∃ env S P Z, Ok X.K X.mg g B env S σ H ∧ m env P Z ∧
  (∀ ds J S' H', P ds → Ok X.K X.mg g B env S' σ H' → Ex S S' → ItOk X.K X.mg g S' J ds → R J H') ∧
  (∀ x cls dx S' H', Z x → Frm g B.1 B.2 S' H' → RepX X.K X.mg g S' cls dx x → E cls dx H')
def DI (tg iter : Expr) (m : Ev → W (List D)) : Prop := PI X tg iter (cloI X g B E m)
end
theorem pi_imp {X : Cx} {tg e : Expr} {t u : TI} (h : PI X tg e t) (i : ∀ σ H R, u σ H R → t σ H R) : PI X tg e u := ⟨fun pins s σ H R I q => h.run pins s σ H R I (i σ H R q)⟩
/-- a list or a tuple -/
def iSeq (K : PySem.W.Frag) (tl : TE) : TI := fun σ H R => tl σ H fun x H1 => ∃ a, x = .ref a ∧ (((∃ xs, SqL K H1 a xs) ∧ R (Itl K a) H1) ∨ ((∃ xs, SqT K H1 a xs) ∧ R (Itt K a) H1))
theorem pi_seq {X : Cx} {tg l : Expr} {tl : TE} (hl : PE X l tl) : PI X tg l (iSeq X.K tl) := by
  refine ⟨fun pins s σ H R I h => thn (hl.run pins s σ H _ I h) fun v s1 ⟨x, H1, I1, r1, a, e, q⟩ => ?_⟩
  subst e
  obtain rfl : v = Value.ref a := r1
  have old : ∀ (ob : Obj) b o, s1.heap.get? b = some o → (s1.heap.push ob).get? b = some o := fun ob b o e => Heap.get?_push_of_some _ e
  have fp : ∀ b ∈ [s1.heap.objs.size], FpOk X pins H1 b := fun b hb => by
    rw [List.mem_singleton.mp hb]
    exact I1.fpOk (Nat.le_refl _) (I1.hok.fresh (Nat.le_refl _))
  rcases q with ⟨⟨xs, hq⟩, q⟩ | ⟨⟨xs, hq⟩, q⟩
  · obtain ⟨its, rv, p, hz⟩ := I1.list hq
    exact wpAny_pyIter_list p.isList ⟨_, [s1.heap.objs.size], _, _, H1, rfl, I1.kept (t' := s1.toks) (old _), turn_list a _, ⟨_, Heap.get?_push_size _ rfl, rfl, rfl⟩, fp, q⟩
  · obtain ⟨its, rv, p, hz⟩ := I1.tuple hq
    exact wpAny_pyIter_tuple (show s1.heap.IsTuple a its.toArray from p) ⟨_, [s1.heap.objs.size], _, _, H1, rfl, I1.kept (t' := s1.toks) (old _), turn_tuple a _, ⟨_, Heap.get?_push_size _ rfl, rfl, rfl⟩, fp, q⟩
@[simp] def iOf (a : EM) : Ev → W (List D) := fun env P Z => a env (fun d => match d with
  | .lst l => P l
  | .tup l => P l
  | .scr l => P (l.map D.int)
  | _ => False) Z
def rgD (lo : Int) (n : Nat) : List D := (List.range n).map fun (k : Nat) => D.int (lo + (k : Int))
@[simp] def iRg1 (a : EM) : Ev → W (List D) := fun env P Z => a env (fun d => match d with
  | .int n => (-(2 ^ 62) ≤ n ∧ n < 2 ^ 62) ∧ P (rgD 0 n.toNat)
  | _ => False) Z
@[simp] def iRg2 (a b : EM) : Ev → W (List D) := fun env P Z => a env (fun d => b env (fun e => match d, e with
  | .int m, .int n => (-(2 ^ 62) ≤ m ∧ m < 2 ^ 62 ∧ -(2 ^ 62) ≤ n ∧ n < 2 ^ 62) ∧ P (rgD m (n - m).toNat)
  | _, _ => False) Z) Z
@[simp] def iZp (a b : EM) : Ev → W (List D) := fun env P Z => a env (fun d => b env (fun e => match d, e with
  | .lst l, .lst m => P (List.zipWith (fun x y => D.tup [x, y]) l m)
  | .tup l, .tup m => P (List.zipWith (fun x y => D.tup [x, y]) l m)
  | _, _ => False) Z) Z
theorem rgD_get {lo : Int} {n i : Nat} {d : D} (h : (rgD lo n)[i]? = some d) : i < n ∧ d = .int (lo + (i : Int)) := by
  unfold rgD at h
  rw [List.getElem?_map] at h
  by_cases hi : i < n
  · rw [List.getElem?_range hi] at h
    exact ⟨hi, (by simpa using h.symm)⟩
  · rw [List.getElem?_eq_none (by simpa using hi)] at h
    cases h
theorem rgD_non {lo : Int} {n i : Nat} (h : (rgD lo n)[i]? = none) : n ≤ i := by
  have z := List.getElem?_eq_none_iff.mp h
  unfold rgD at z
  simpa using z
section
variable {X : Cx} {g : Gd} {B : Hp × Hp} {E : XK} {a b tg : Expr} {pos p : Pos} {ma mb : EM}
theorem di_of (ha : DE X g B E a ma) : DI X g B E tg a (iOf ma) := by
  refine pi_imp (pi_seq ha) fun σ H R h => ?_
  obtain ⟨env, S, P, Z, ok, hm, k, kx⟩ := h
  refine ⟨env, S, _, Z, ok, hm, fun d v S' H' p ok' ex r => ?_, kx⟩
  cases d with
  | lst l =>
    unfold Rep at r
    obtain ⟨q, vs, rfl, h2, h3⟩ := r
    refine ⟨q, rfl, .inl ⟨⟨vs, ok'.frm.le.sqL (SqL.of h2)⟩, k l _ S' H' p ok' ex fun i S2 H2 e2 l2 => ⟨fun d hd => ?_, fun hn => ?_⟩⟩⟩
    · obtain ⟨v, hv, rv⟩ := h3.got hd
      exact ⟨⟨vs, v, l2.sqL (SqL.of (e2 _ _ h2)), hv⟩, fun x H3 y => by
        obtain ⟨e, y⟩ := y
        rw [e]
        have z := y vs (l2.sqL (SqL.of (e2 _ _ h2)))
        rw [hv] at z
        rw [← Option.some.inj z]
        exact ⟨S2, New.rf l2, rv.mono e2⟩⟩
    · exact ⟨vs, l2.sqL (SqL.of (e2 _ _ h2)), by have := List.getElem?_eq_none_iff.mp hn; rw [← h3.len]; exact this⟩
  | tup l =>
    unfold Rep at r
    obtain ⟨q, vs, rfl, h2, h3⟩ := r
    refine ⟨q, rfl, .inr ⟨⟨vs, ok'.frm.le.sqT h2⟩, k l _ S' H' p ok' ex fun i S2 H2 e2 l2 => ⟨fun d hd => ?_, fun hn => ?_⟩⟩⟩
    · obtain ⟨v, hv, rv⟩ := h3.got hd
      exact ⟨⟨vs, v, l2.sqT (Evl.ex_t e2 h2), hv⟩, fun x H3 y => by
        obtain ⟨e, y⟩ := y
        rw [e]
        have z := y vs (l2.sqT (Evl.ex_t e2 h2))
        rw [hv] at z
        rw [← Option.some.inj z]
        exact ⟨S2, New.rf l2, rv.mono e2⟩⟩
    · exact ⟨vs, l2.sqT (Evl.ex_t e2 h2), by have := List.getElem?_eq_none_iff.mp hn; rw [← h3.len]; exact this⟩
  | scr l =>
    unfold Rep at r
    obtain ⟨q, rfl, h2⟩ := r
    refine ⟨q, rfl, .inl ⟨⟨_, ok'.frm.le.sqL h2⟩, k _ _ S' H' p ok' ex fun i S2 H2 e2 l2 => ⟨fun d hd => ?_, fun hn => ?_⟩⟩⟩
    · have hs := l2.sqL (Evl.ex_l e2 h2)
      rw [List.getElem?_map] at hd
      cases hz : l[i]? with
      | none =>
        rw [hz] at hd
        cases hd
      | some z =>
        rw [hz] at hd
        cases hd
        have hv : (l.map V.int)[i]? = some (.int z) := by rw [List.getElem?_map, hz]; rfl
        exact ⟨⟨_, _, hs, hv⟩, fun x H3 y => by
          obtain ⟨e, y⟩ := y
          have w := y _ hs
          rw [hv] at w
          rw [e, ← Option.some.inj w]
          exact ⟨S2, New.rf l2, by unfold Rep; rfl⟩⟩
    · exact ⟨_, l2.sqL (Evl.ex_l e2 h2), by have := List.getElem?_eq_none_iff.mp hn; simpa using this⟩
  | _ => exact p.elim
theorem itr_ok {K : PySem.W.Frag} {mg : Str → Option Value} {S : Hp} (lo : Int) (n : Nat) : ItOk K mg g S (Itr lo n) (rgD lo n) := fun i S2 H2 e2 l2 => ⟨fun d hd => by
  obtain ⟨h1, h2⟩ := rgD_get hd
  refine ⟨h1, fun x H3 y => ?_⟩
  obtain ⟨e, y⟩ := y
  rw [e, h2]
  exact ⟨S2, New.rf l2, by unfold Rep; exact y⟩, fun hn => rgD_non hn⟩
theorem di_rg1 (hg : Gl X "range") (hm : X.mg "range" = none) (ha : DE X g B E a ma) (hs : starEach [a] X.env = [(false, eval a X.env)] := by rfl) : DI X g B E tg (.Call (.Name "range" p) [a] [] pos) (iRg1 ma) := by
  refine pi_imp (pi_range1 hg hm (pa_cons ha pa_nil hs) hs) fun σ H R h => ?_
  obtain ⟨env, S, P, Z, ok, hm, k, kx⟩ := h
  refine ⟨env, S, _, Z, ok, hm, fun d v S' H' p ok' ex r => ?_, kx⟩
  cases d with
  | int n =>
    unfold Rep at r
    subst r
    exact ⟨n, rfl, p.1.1, p.1.2, k _ _ S' H' p.2 ok' ex (itr_ok 0 _)⟩
  | _ => exact p.elim
theorem di_rg2 (hg : Gl X "range") (hm : X.mg "range" = none) (ha : DE X g B E a ma) (hb : DE X g B E b mb) (hs : starEach [a, b] X.env = [(false, eval a X.env), (false, eval b X.env)] := by rfl) (hs2 : starEach [b] X.env = [(false, eval b X.env)] := by rfl) :
    DI X g B E tg (.Call (.Name "range" p) [a, b] [] pos) (iRg2 ma mb) := by
  refine pi_imp (pi_range2 hg hm (pa_cons ha (pa_cons hb pa_nil hs2) (by rw [hs, hs2])) hs hs2) fun σ H R h => ?_
  obtain ⟨env, S, P, Z, ok, hm, k, kx⟩ := h
  refine ⟨env, S, _, Z, ok, hm, fun d v S' H' p ok' ex r => ?_, kx⟩
  refine ⟨env, S', _, Z, ok', p, fun d2 v2 S2 H2 p2 ok2 ex2 r2 => ?_, kx⟩
  cases d with
  | int m =>
    cases d2 with
    | int n =>
      unfold Rep at r r2
      subst r r2
      exact ⟨m, n, rfl, p2.1, k _ _ S2 H2 p2.2 ok2 (ex.tr ex2) (itr_ok m _)⟩
    | _ => exact p2.elim
  | _ => exact p2.elim
theorem zip_get {l m : List D} {i : Nat} {d : D} (h : (List.zipWith (fun x y => D.tup [x, y]) l m)[i]? = some d) : ∃ x y, l[i]? = some x ∧ m[i]? = some y ∧ d = .tup [x, y] := by
  rw [List.getElem?_zipWith] at h
  cases h1 : l[i]? with
  | none =>
    rw [h1] at h
    simp at h
  | some x =>
    cases h2 : m[i]? with
    | none =>
      rw [h1, h2] at h
      simp at h
    | some y =>
      rw [h1, h2] at h
      exact ⟨x, y, rfl, rfl, (by simpa using h.symm)⟩
theorem zip_non {l m : List D} {i : Nat} (h : (List.zipWith (fun x y => D.tup [x, y]) l m)[i]? = none) : l.length ≤ i ∨ m.length ≤ i := by
  have z := List.getElem?_eq_none_iff.mp h
  rw [List.length_zipWith] at z
  omega
theorem di_zp {elts : List Expr} {kk : Nat} {tpos : Pos} (hg : Gl X "zip") (hm : X.mg "zip" = none) (ha : DE X g B E a ma) (hb : DE X g B E b mb)
    (hs : starEach [a, b] X.env = (false, eval a X.env) :: starEach [b] X.env := by rfl) (hs2 : starEach [b] X.env = (false, eval b X.env) :: starEach [] X.env := by rfl) (hpl : (backTo pos (starEach [b] X.env)).any (·.1) = false := by rfl) :
    DI X g B E (.Tuple elts kk tpos) (.Call (.Name "zip" p) [a, b] [] pos) (iZp ma mb) := by
  refine pi_imp (RZ.pi_zipA hg hm (pa_cons ha (pa_cons hb pa_nil hs2) hs) hs hpl) fun σ H R h => ?_
  obtain ⟨env, S, P, Z, ok, hm, k, kx⟩ := h
  refine ⟨env, S, _, Z, ok, hm, fun d v S' H' p ok' ex r => ?_, kx⟩
  refine ⟨env, S', _, Z, ok', p, fun d2 v2 S2 H2 p2 ok2 ex2 r2 => ?_, kx⟩
  have rr := r.mono ex2
  cases d with
  | lst l =>
    cases d2 with
    | lst m =>
      unfold Rep at rr r2
      obtain ⟨q, vs, rfl, h2, h3⟩ := rr
      obtain ⟨q', vs', rfl, h2', h3'⟩ := r2
      refine ⟨q, q', vs, vs', rfl, .inl ⟨ok2.frm.le.sqL (SqL.of h2), ok2.frm.le.sqL (SqL.of h2'), k _ _ S2 H2 p2 ok2 (ex.tr ex2) fun i S4 H4 e4 l4 => ⟨fun d hd => ?_, fun hn => ?_⟩⟩⟩
      · obtain ⟨x, y, hx, hy, rfl⟩ := zip_get hd
        obtain ⟨vx, ex', rx⟩ := h3.got hx
        obtain ⟨vy, ey', ry⟩ := h3'.got hy
        have s1 := l4.sqL (K := X.K) (SqL.of (e4 _ _ h2))
        have s2 := l4.sqL (K := X.K) (SqL.of (e4 _ _ h2'))
        refine ⟨⟨vs, vs', vx, vy, s1, s2, ex', ey'⟩, fun w H5 yy => ?_⟩
        obtain ⟨T, x1, y1, rfl, hT, rfl, f1, f2⟩ := yy
        have z1 := f1 _ s1
        have z2 := f2 _ s2
        rw [ex'] at z1
        rw [ey'] at z2
        cases z1
        cases z2
        have n := New.add (o := .tup [vx, vy]) l4 hT (fun ps z => by cases z)
        exact ⟨_, n, by unfold Rep; exact ⟨T, _, rfl, SqT.of upd_same, Reps.cons ((rx.mono e4).mono n.ss) (Reps.cons ((ry.mono e4).mono n.ss) Reps.nil)⟩⟩
      · exact ⟨vs, vs', l4.sqL (SqL.of (e4 _ _ h2)), l4.sqL (SqL.of (e4 _ _ h2')), by rw [← h3.len, ← h3'.len]; exact zip_non hn⟩
    | _ => exact p2.elim
  | tup l =>
    cases d2 with
    | tup m =>
      unfold Rep at rr r2
      obtain ⟨q, vs, rfl, h2, h3⟩ := rr
      obtain ⟨q', vs', rfl, h2', h3'⟩ := r2
      refine ⟨q, q', vs, vs', rfl, .inr ⟨ok2.frm.le.sqT h2, ok2.frm.le.sqT h2', k _ _ S2 H2 p2 ok2 (ex.tr ex2) fun i S4 H4 e4 l4 => ⟨fun d hd => ?_, fun hn => ?_⟩⟩⟩
      · obtain ⟨x, y, hx, hy, rfl⟩ := zip_get hd
        obtain ⟨vx, ex', rx⟩ := h3.got hx
        obtain ⟨vy, ey', ry⟩ := h3'.got hy
        have s1 := l4.sqT (K := X.K) (Evl.ex_t e4 h2)
        have s2 := l4.sqT (K := X.K) (Evl.ex_t e4 h2')
        refine ⟨⟨vs, vs', vx, vy, s1, s2, ex', ey'⟩, fun w H5 yy => ?_⟩
        obtain ⟨T, x1, y1, rfl, hT, rfl, f1, f2⟩ := yy
        have z1 := f1 _ s1
        have z2 := f2 _ s2
        rw [ex'] at z1
        rw [ey'] at z2
        cases z1
        cases z2
        have n := New.add (o := .tup [vx, vy]) l4 hT (fun ps z => by cases z)
        exact ⟨_, n, by unfold Rep; exact ⟨T, _, rfl, SqT.of upd_same, Reps.cons ((rx.mono e4).mono n.ss) (Reps.cons ((ry.mono e4).mono n.ss) Reps.nil)⟩⟩
      · exact ⟨vs, vs', l4.sqT (Evl.ex_t e4 h2), l4.sqT (Evl.ex_t e4 h2'), by rw [← h3.len, ← h3'.len]; exact zip_non hn⟩
    | _ => exact p2.elim
  | _ => exact p2.elim
end

/-! ### comprehensions -/
@[simp] def lcE (T : D → Ev → Option Ev) (c : Ev → W Bool) (me : EM) (env : Ev) : List D → W (List D)
  | [] => fun P _ => P []
  | x :: r => fun P Z => match T x env with
    | none => False
    | some env1 => c env1 (fun b => if b = true then me env1 (fun y => lcE T c me env r (fun ys => P (y :: ys)) Z) (fun _ => False) else lcE T c me env r P Z) (fun _ => False)
@[simp] def eLc (own : List Nat) (T : D → Ev → Option Ev) (mi : Ev → W (List D)) (c : Ev → W Bool) (me : EM) : EM := fun env P Z => mi env (fun xs => xs.length < 16777216 ∧ lcE T c me (blkE own env) xs (fun ys => P (.lst ys)) Z) Z
@[simp] def tTrue : Ev → W Bool := fun _ P _ => P true
abbrev EF : XK := fun _ _ _ => False
section
variable {X : Cx} {g : Gd} {B : Hp × Hp} {E : XK} {elt tg iter : Expr} {ifs : List Expr} {scope : Scope} {own : List (Str × Nat)} {pos : Pos} {mi : Ev → W (List D)} {gT : TG} {T : D → Ev → Option Ev} {vT : List Nat} {mc : Ev → W Bool} {me : EM}
theorem lc_own {vs : List Nat} (tk : TgOk X g gT T vT) (hsub : ∀ i ∈ vT, i ∈ vs) {σ : L2.St} {H : Hp} {Q : VK} {env : Ev} {S : Hp} {P : List D → Prop} {Z : D → Prop} (ok : Ok X.K X.mg g B env S σ H) (hm : mi env (fun xs => xs.length < 16777216 ∧ lcE T mc me (blkE vs env) xs P Z) Z)
    (kx : ∀ x cls dx S' H', Z x → Frm g B.1 B.2 S' H' → RepX X.K X.mg g S' cls dx x → E cls dx H')
    (k : ∀ ys D acc S2 H2, P ys → Ok X.K X.mg g B env S2 σ H2 → Ex S S2 → S2 D = none → Nn B.2 D → D ∉ g.R → H2 D = some (.lst acc) → Reps X.K X.mg g S2 ys acc → (∀ (i : Nat) (a : Addr) (l : List DL.D), env[i]? = some (.own l) → σ[i]? = some (some (.ref a)) → a ≠ D) → Q (.ref D) H2) :
    tLc (cloI X g B E mi) gT (fun σ H Q => ∃ B', cloT X g B' EF mc σ H Q) (fun σ H Q => ∃ B', clo X g B' EF me σ H Q) vs σ H Q := by
  refine ⟨env, S, _, Z, ok, hm, fun ds J S1 H1 p1 ok1 ex1 it => ?_, kx⟩
  obtain ⟨hlen, p1⟩ := p1
  intro D hD
  have nR : D ∉ g.R := notR ok1.frm.dw hD
  have sD := ok1.frm.le.none hD
  refine ⟨fun i m H2 => m = ds.length - i ∧ i ≤ ds.length ∧ ∃ (S2 : Hp) (acc : List V) (ys : List DL.D), Frm g S1 H1 S2 H2 ∧ S2 D = none ∧ H2 D = some (.lst acc) ∧ Reps X.K X.mg g S2 ys acc ∧ ys.length ≤ i ∧
    lcE T mc me (blkE vs env) (ds.drop i) (fun r => P (ys ++ r)) Z, ⟨ds.length, by simp, Nat.zero_le _, S1, [], [], ok1.frm.rf.new (New.hid ok1.frm.le hD), sD, upd_same, Reps.nil, Nat.le_refl _, by simpa using p1⟩, ?_⟩
  rintro i m H2 ⟨rfl, hi, S2, acc, ys, f2, s2, hd2, rp, hy, q⟩
  by_cases hlt : i < ds.length
  · right
    obtain ⟨it1, _⟩ := it i S2 H2 f2.ss f2.le
    have e0 : ds[i]? = some ds[i] := List.getElem?_eq_getElem hlt
    obtain ⟨go, yl⟩ := it1 _ e0
    refine ⟨go, fun H' => ∃ m', m' < ds.length - i ∧ m' = ds.length - (i + 1) ∧ i + 1 ≤ ds.length ∧ ∃ (S2 : Hp) (acc : List V) (ys : List DL.D), Frm g S1 H1 S2 H' ∧ S2 D = none ∧ H' D = some (.lst acc) ∧ Reps X.K X.mg g S2 ys acc ∧ ys.length ≤ i + 1 ∧
      lcE T mc me (blkE vs env) (ds.drop (i + 1)) (fun r => P (ys ++ r)) Z, fun H' ⟨m', h1, h2⟩ => ⟨m', h1, h2⟩, fun x H3 y => ?_⟩
    obtain ⟨S3, n3, r3⟩ := yl x H3 y
    have f3 := f2.new n3
    have ok3 := (ok1.call f3).blk vs
    have s3 : S3 D = none := by
      cases z : S3 D with
      | none => rfl
      | some o =>
        rcases n3.nw D o z with w | w
        · rw [s2] at w
          cases w
        · rw [hd2] at w
          cases w
    rw [List.drop_eq_getElem_cons hlt] at q
    unfold lcE at q
    cases et : T ds[i] (blkE vs env) with
    | none =>
      rw [et] at q
      exact q.elim
    | some env1 =>
      rw [et] at q
      refine tk.run _ _ x _ H3 _ env1 S3 _ ok3 r3 et fun σ2 ok4 hs hl => ⟨wipe_same (fun j hj => ?_) hl, ?_⟩
      · exact hs j fun z => hj (hsub j z)
      refine ⟨(S3, H3), env1, S3, _, _, ok4, q, fun b S5 H5 p5 ok5 ex5 => ?_, fun x cls dx S' H' z => z.elim⟩
      cases b with
      | false =>
        rw [if_neg (by decide)] at p5
        rw [if_neg (by decide)]
        have f5 : Frm g S3 H3 S5 H5 := ok5.frm
        refine ⟨_, by omega, rfl, by omega, S5, acc, ys, f3.tr f5, ?_, f5.fr _ _ (n3.hh _ _ hd2) nR (fun ps z => by cases z), (rp.mono n3.ss).mono ex5, by omega, p5⟩
        cases z : S5 D with
        | none => rfl
        | some o =>
          rcases f5.nw D o z with w | w
          · rw [s3] at w
            cases w
          · exact (w.lst (n3.hh _ _ hd2)).elim
      | true =>
        rw [if_pos rfl] at p5
        rw [if_pos rfl]
        refine ⟨(S3, H3), env1, S5, _, _, ok5, p5, fun dy yv S6 H6 p6 ok6 ex6 r6 => ?_, fun x cls dx S' H' z => z.elim⟩
        have f6 : Frm g S3 H3 S6 H6 := ok6.frm
        have hd6 : H6 D = some (.lst acc) := f6.fr _ _ (n3.hh _ _ hd2) nR (fun ps z => by cases z)
        have s6 : S6 D = none := by
          cases z : S6 D with
          | none => rfl
          | some o =>
            rcases f6.nw D o z with w | w
            · rw [s3] at w
              cases w
            · exact (w.lst (n3.hh _ _ hd2)).elim
        refine ⟨acc, hd6, ?_, _, by omega, rfl, by omega, S6, acc ++ [yv], ys ++ [dy], (f3.tr f6).wr s6 (Nn.of hD) nR hd6, s6, upd_same, Reps.app (((rp.mono n3.ss).mono ex5).mono ex6) (Reps.cons r6 Reps.nil), by rw [List.length_append]; simp; omega, ?_⟩
        · rw [← rp.len, sizeLine_eq]
          omega
        · have e : (fun r => P (ys ++ [dy] ++ r)) = fun r => P (ys ++ dy :: r) := by
            funext r
            simp
          rw [e]
          exact p6
  · left
    have e : i = ds.length := by omega
    subst e
    obtain ⟨_, it2⟩ := it ds.length S2 H2 f2.ss f2.le
    refine ⟨it2 (by simp), ?_⟩
    rw [List.drop_length] at q
    refine k ys D acc S2 H2 (by simpa [lcE] using q) (ok1.call f2) (ex1.tr f2.ss) s2 (ok1.frm.al _ hD) nR hd2 rp fun j a l e1 e2 w => ?_
    obtain ⟨a', vs', w1, w2, w3, w4, w5, w6⟩ := ok1.slots j _ e1
    rw [e2] at w1
    have w7 : a = a' := by simpa using w1
    rw [← w7, w, hD] at w5
    cases w5
theorem Ok.adopt {K : PySem.W.Frag} {mg : Str → Option Value} {env : Ev} {S H : Hp} {σ : L2.St} {D : Addr} {acc : List V} (k : Ok K mg g B env S σ H) (h1 : S D = none) (h2 : Nn B.2 D) (h3 : D ∉ g.R) (h4 : H D = some (.lst acc))
    (h5 : ∀ (i : Nat) (a : Addr) (l : List DL.D), env[i]? = some (.own l) → σ[i]? = some (some (.ref a)) → a ≠ D) : Ok K mg g B env (upd S D (.lst acc)) σ H where
  frm := k.frm.adopt h1 h2 h3 h4 fun ps z => by cases z
  len := k.len
  slots := fun i s e => by
    have ex : Ex S (upd S D (.lst acc)) := fun b o z => by
      rw [upd_ne (fun w => by rw [w, h1] at z; cases z)]
      exact z
    have z := k.slots i s e
    cases s with
    | un => trivial
    | sh d =>
      obtain ⟨v, z1, z2⟩ := z
      exact ⟨v, z1, z2.mono ex⟩
    | own l =>
      obtain ⟨a, vs, z1, z2, z3, z4, z5, z6⟩ := z
      exact ⟨a, vs, z1, by rw [upd_ne (h5 i a l e z1)]; exact z2, z3, z4, z5, z6.mono ex⟩
  apart := k.apart
theorem lc_te {vs : List Nat} (tk : TgOk X g gT T vT) (hsub : ∀ i ∈ vT, i ∈ vs) {σ : L2.St} {H : Hp} {Q : VK} (h : clo X g B E (eLc vs T mi mc me) σ H Q) :
    tLc (cloI X g B E mi) gT (fun σ H Q => ∃ B', cloT X g B' EF mc σ H Q) (fun σ H Q => ∃ B', clo X g B' EF me σ H Q) vs σ H Q := by
  obtain ⟨env, S, P, Z, ok, hm, k, kx⟩ := h
  refine lc_own tk hsub ok hm kx fun ys D acc S2 H2 q ok2 ex2 s2 nB nR hd2 rp hno => ?_
  have ok3 := ok2.adopt s2 nB nR hd2 hno
  have ex3 : Ex S2 (upd S2 D (.lst acc)) := fun b o z => by
    rw [upd_ne (fun w => by rw [w, s2] at z; cases z)]
    exact z
  refine k (.lst ys) _ _ H2 q ok3 (ex2.tr ex3) ?_
  unfold Rep
  exact ⟨D, acc, rfl, upd_same, rp.mono ex3⟩
theorem pt_any {ι : Type} {e : List Expr} {t : ι → TT} (h : ∀ i, PTs X e (t i)) : PTs X e (fun σ H Q => ∃ i, t i σ H Q) := ⟨fun pins s σ H Q I ⟨i, q⟩ => (h i).run pins s σ H Q I q⟩
theorem pe_any {ι : Type} {e : Expr} {t : ι → TE} (h : ∀ i, PE X e (t i)) : PE X e (fun σ H Q => ∃ i, t i σ H Q) := ⟨fun pins s σ H Q I ⟨i, q⟩ => (h i).run pins s σ H Q I q⟩
def DTs (X : Cx) (g : Gd) (B : Hp × Hp) (E : XK) (es : List Expr) (m : Ev → W Bool) : Prop := PTs X es (cloT X g B E m)
theorem dts_nil : DTs X g B E [] tTrue := ⟨fun pins s σ H Q I h => by
  obtain ⟨env, S, P, Z, ok, hm, k, kx⟩ := h
  exact pts_nil.run pins s σ H Q I (k true S H hm ok (Ex.rf _))⟩
theorem dts_one {c : Expr} {m : Ev → W Bool} (h : DT X g B E c m) : DTs X g B E [c] m := pts_one h
theorem de_lc (hc : X.calm = true) (hN : X.N.Nodup) (hi : DI X g B E tg iter mi) (ok : BlkOk X.N X.env.scope scope own)
    (hg : ∀ (s : Shared) (H : Hp) (C : Addr) (cl : List (Str × Addr)) (fp : List Addr), PG (X.blk s H scope (compEnvC scope cl C X.env) fp) tg gT) (tk : TgOk X g gT T vT) (hsub : ∀ i ∈ vT, i ∈ own.map (·.2))
    (ht : ∀ (s : Shared) (H : Hp) (C : Addr) (cl : List (Str × Addr)) (fp : List Addr) (B' : Hp × Hp), DTs (X.blk s H scope (compEnvC scope cl C X.env) fp) g B' EF ifs mc)
    (he : ∀ (s : Shared) (H : Hp) (C : Addr) (cl : List (Str × Addr)) (fp : List Addr) (B' : Hp × Hp), DE (X.blk s H scope (compEnvC scope cl C X.env) fp) g B' EF elt me) (hs : ∀ x, foldedSetIterable iter X.env x = pure x := by intro _; rfl) :
    DE X g B E (.ListComp elt [⟨tg, iter, ifs, 0⟩] scope pos) (eLc (own.map (·.2)) T mi mc me) :=
  pe_imp (pe_lc hc hN hi ok hg (fun s H C cl fp => pt_any (t := fun B1 => cloT X g B1 EF mc) fun B' => ht s H C cl fp B') (fun s H C cl fp => pe_any (t := fun B1 => clo X g B1 EF me) fun B' => he s H C cl fp B') hs) fun _ _ _ h => lc_te tk hsub h
end
end DL

set_option Elab.async false
set_option linter.all false
set_option maxRecDepth 100000
set_option maxHeartbeats 2000000
/-! DD: statements; loops; defs and their calls. -/
namespace DL
open PySem PySem.Spec PyProof.Rows L2

structure KS where
  nx : Ev → Prop
  rt : D → Prop
  bk : Ev → Prop := fun _ => False
  ct : Ev → Prop := fun _ => False
  er : D → Prop := fun _ => False
abbrev SM := Ev → KS → Prop
section
variable (X : Cx) (g : Gd) (B : Hp × Hp) (E : XK)
structure KOk (S0 : Hp) (k : KS) (De : Ends) : Prop where
  nx : ∀ env S σ H, k.nx env → Ok X.K X.mg g B env S σ H → Ex S0 S → De.nx σ H
  rt : ∀ d v S H, k.rt d → Frm g B.1 B.2 S H → Rep X.K X.mg g S d v → De.rt v H
  bk : ∀ env S σ H, k.bk env → Ok X.K X.mg g B env S σ H → Ex S0 S → De.bk σ H
  ct : ∀ env S σ H, k.ct env → Ok X.K X.mg g B env S σ H → Ex S0 S → De.ct σ H
  er : ∀ x cls dx S H, k.er x → Frm g B.1 B.2 S H → RepX X.K X.mg g S cls dx x → E cls dx H
def cloS (m : SM) : TS := fun De σ H => ∃ env S k, Ok X.K X.mg g B env S σ H ∧ m env k ∧ KOk X g B E S k De
def DS (st : Stmt) (m : SM) : Prop := PS X st (cloS X g B E m)
def DSs (st : List Stmt) (m : SM) : Prop := PSs X st (cloS X g B E m)
theorem KOk.mono {X : Cx} {g : Gd} {B : Hp × Hp} {E : XK} {S S' : Hp} {k : KS} {De : Ends} (h : KOk X g B E S k De) (e : Ex S S') : KOk X g B E S' k De :=
  ⟨fun a b c d q o x => h.nx a b c d q o (e.tr x), h.rt, fun a b c d q o x => h.bk a b c d q o (e.tr x), fun a b c d q o x => h.ct a b c d q o (e.tr x), h.er⟩
end

@[simp] def sNx : SM := fun env k => k.nx env
@[simp] def sSq (a b : SM) : SM := fun env k => a env { k with nx := fun e => b e k }
@[simp] def sRt (a : EM) : SM := fun env k => a env k.rt k.er
@[simp] def sRn : SM := fun _ k => k.rt .non
@[simp] def sDr (a : EM) : SM := fun env k => a env (fun _ => k.nx env) k.er
@[simp] def sSet (i : Nat) (a : EM) : SM := fun env k => a env (fun d => k.nx (env.set i (.sh d))) k.er
@[simp] def sPr (is : List Nat) (a : Ev → W (List D)) : SM := fun env k => a env (fun ds => match is, ds with
  | [i, j], [x, y] => k.nx ((env.set i (.sh x)).set j (.sh y))
  | [i, j, l], [x, y, z] => k.nx (((env.set i (.sh x)).set j (.sh y)).set l (.sh z))
  | _, _ => False) k.er
@[simp] def sTg (T : D → Ev → Option Ev) (a : EM) : SM := fun env k => a env (fun d => match T d env with
  | some env' => k.nx env'
  | none => False) k.er
@[simp] def sIf (c : Ev → W Bool) (a b : SM) : SM := fun env k => c env (fun t => if t = true then a env k else b env k) k.er
@[simp] def sBk : SM := fun env k => k.bk env
@[simp] def sCt : SM := fun env k => k.ct env
/-- x = [] -/
@[simp] def sNil (i : Nat) : SM := fun env k => k.nx (env.set i (.own []))
/-- x.append(e), x a list that this name alone holds -/
@[simp] def sApp (i : Nat) (a : EM) : SM := fun env k => match env[i]? with
  | some (.own l) => a env (fun d => l.length < 16777216 ∧ k.nx (env.set i (.own (l ++ [d])))) k.er
  | _ => False
/-- from now on x's list is plain data -/
@[simp] def sFz (i : Nat) (a : SM) : SM := fun env k => match env[i]? with
  | some (.own l) => a (env.set i (.sh (.lst l))) k
  | _ => a env k
@[simp] def sKl (is : List Nat) (a : SM) : SM := fun env k => a (kilE is env) k
@[simp] def forS (T : D → Ev → Option Ev) (kl : List Nat) (b : SM) : List D → SM
  | [] => fun env k => k.nx env
  | x :: r => fun env k => match T x env with
    | none => False
    | some env1 => b env1 { k with nx := fun e => forS T kl b r (kilE kl e) k, ct := fun e => forS T kl b r (kilE kl e) k, bk := fun e => k.nx (kilE kl e) }
@[simp] def sFor (T : D → Ev → Option Ev) (kl : List Nat) (mi : Ev → W (List D)) (b : SM) : SM := fun env k => mi env (fun xs => forS T kl b xs env k) k.er
/-- while: an invariant with its measure -/
def sWh (kl : List Nat) (c : Ev → W Bool) (b : SM) : SM := fun env k => ∃ I : Nat → Ev → Prop, (∃ m, I m env) ∧ ∀ m e, I m e →
  c e (fun t => if t = true then b e { k with nx := fun e' => ∃ m', m' < m ∧ I m' (kilE kl e'), ct := fun e' => ∃ m', m' < m ∧ I m' (kilE kl e'), bk := fun e' => k.nx (kilE kl e') } else k.nx e) k.er
/-- raise C(..): the error that comes -/
@[simp] def sRs (a : EM) : SM := fun env k => a env k.er k.er

section
variable {X : Cx} {g : Gd} {B : Hp × Hp} {E : XK} {st : Stmt} {r : List Stmt} {m m2 : SM} {a b c e : Expr} {pos : Pos} {ma mb : EM} {mc : Ev → W Bool} {ml : Ev → W (List D)} {es : List Expr}
theorem dss_nil : DSs X g B E [] sNx := pss_imp pss_nil fun De σ H h => by
  obtain ⟨env, S, k, ok, hm, kk⟩ := h
  exact kk.nx env S σ H hm ok (Ex.rf _)
theorem dss_cons (h : DS X g B E st m) (h2 : DSs X g B E r m2) : DSs X g B E (st :: r) (sSq m m2) := pss_imp (pss_cons h h2) fun De σ H h => by
  obtain ⟨env, S, k, ok, hm, kk⟩ := h
  exact ⟨env, S, _, ok, hm, fun env' S' σ' H' q ok' ex => ⟨env', S', k, ok', q, kk.mono ex⟩, kk.rt, kk.bk, kk.ct, kk.er⟩
theorem dss_one (h : DS X g B E st m) : DSs X g B E [st] m := pss_one h
theorem dss_fz {i : Nat} (h : DSs X g B E r m) : DSs X g B E r (sFz i m) := pss_imp h fun De σ H h => by
  obtain ⟨env, S, k, ok, hm, kk⟩ := h
  unfold sFz at hm
  cases e : env[i]? with
  | none =>
    rw [e] at hm
    exact ⟨env, S, k, ok, hm, kk⟩
  | some s =>
    rw [e] at hm
    cases s with
    | un => exact ⟨env, S, k, ok, hm, kk⟩
    | sh d => exact ⟨env, S, k, ok, hm, kk⟩
    | own l =>
      obtain ⟨p, vs, h1, h2, h3, h4, h5, h6⟩ := ok.slots i _ e
      have f := ok.frm.adopt h2 h3 h4 h5 (fun ps z => by cases z)
      have mo : Ex S (upd S p (.lst vs)) := fun q o z => by
        rw [upd_ne (fun w => by rw [w, h2] at z; cases z)]
        exact z
      have rl : Rep X.K X.mg g (upd S p (.lst vs)) (.lst l) (.ref p) := by
        unfold Rep
        exact ⟨p, vs, rfl, upd_same, h6.mono mo⟩
      have il := (List.getElem?_eq_some_iff.mp e).1
      refine ⟨_, upd S p (.lst vs), k, ⟨f, by rw [List.length_set]; exact ok.len, fun j s' e' => ?_, fun q j l1 m1 z e1 e2 s1 s2 => ?_⟩, hm, kk.mono mo⟩
      · rcases getset e' with ⟨rfl, rfl, _⟩ | ⟨ne, e'⟩
        · exact ⟨_, h1, rl⟩
        · have z := ok.slots j s' e'
          cases s' with
          | un => trivial
          | sh d =>
            obtain ⟨v, y1, y2⟩ := z
            exact ⟨v, y1, y2.mono mo⟩
          | own l2 =>
            obtain ⟨p2, ws, y1, y2, y3, y4, y5, y6⟩ := z
            refine ⟨p2, ws, y1, ?_, y3, y4, y5, y6.mono mo⟩
            rw [upd_ne (fun w => ne (ok.apart i j l l2 p e e' h1 (by rw [y1, w])))]
            exact y2
      · rcases getset e1 with ⟨rfl, z, _⟩ | ⟨_, e1⟩
        · cases z
        · rcases getset e2 with ⟨rfl, z, _⟩ | ⟨_, e2⟩
          · cases z
          · exact ok.apart q j l1 m1 z e1 e2 s1 s2
theorem dss_kl {is : List Nat} (h : DSs X g B E r m) : DSs X g B E r (sKl is m) := pss_imp h fun De σ H h => by
  obtain ⟨env, S, k, ok, hm, kk⟩ := h
  exact ⟨_, S, k, ok.kil is, hm, kk⟩
theorem ds_rt (ha : DE X g B E a ma) : DS X g B E (.Return (some a) pos) (sRt ma) := ps_imp (ps_ret ha) fun De σ H h => by
  obtain ⟨env, S, k, ok, hm, kk⟩ := h
  exact ⟨env, S, _, _, ok, hm, fun d v S' H' p ok' ex r => kk.rt d v S' H' p ok'.frm r, kk.er⟩
theorem ds_rn : DS X g B E (.Return none pos) sRn := ps_imp ps_retN fun De σ H h => by
  obtain ⟨env, S, k, ok, hm, kk⟩ := h
  exact kk.rt .non .non S H hm ok.frm (by unfold Rep; rfl)
theorem ds_dr (ha : DE X g B E a ma) (hs : swapsWith a none pos.line X.env = pure false := by rfl) : DS X g B E (.Expr a pos) (sDr ma) := ps_imp (ps_expr ha hs) fun De σ H h => by
  obtain ⟨env, S, k, ok, hm, kk⟩ := h
  exact ⟨env, S, _, _, ok, hm, fun d v S' H' p ok' ex r => kk.nx env S' σ H' p ok' ex, kk.er⟩
theorem ds_ps : DS X g B E (.Pass pos) sNx := ps_imp ps_pass fun De σ H h => by
  obtain ⟨env, S, k, ok, hm, kk⟩ := h
  exact kk.nx env S σ H hm ok (Ex.rf _)
theorem ds_bk : DS X g B E (.Break pos) sBk := ps_imp ps_break fun De σ H h => by
  obtain ⟨env, S, k, ok, hm, kk⟩ := h
  exact kk.bk env S σ H hm ok (Ex.rf _)
theorem ds_ct : DS X g B E (.Continue pos) sCt := ps_imp ps_continue fun De σ H h => by
  obtain ⟨env, S, k, ok, hm, kk⟩ := h
  exact kk.ct env S σ H hm ok (Ex.rf _)
/-- x = e -/
theorem ds_set {i : Nat} {x : Str} {pos' : Pos} (hN : X.N.Nodup) (ha : DE X g B E a ma) (hi : X.N[i]? = some x := by rfl) (hx : Loc X.env.scope x := by first | exact Or.inl rfl | exact Or.inr rfl)
    (hs : swapsWith a (some (.Name x pos')) pos.line X.env = pure false := by rfl) (hf : X.fn x = true ∨ X.env.scope.names.lookup x = some .local := by first | exact .inl rfl | exact .inr rfl) : DS X g B E (.Assign [.Name x pos'] a pos) (sSet i ma) :=
  ps_imp (ps_set (i := i) hN hi hx ha hs hf) fun De σ H h => by
    obtain ⟨env, S, k, ok, hm, kk⟩ := h
    exact ⟨env, S, _, _, ok, hm, fun d v S' H' p ok' ex r => kk.nx _ S' _ H' p (ok'.set i r) ex, kk.er⟩
/-- x = [.. for ..] on one line, x a local -/
theorem ds_lc {i : Nat} {y : Str} {py spos : Pos} {elt tg iter : Expr} {ifs : List Expr} {scope : Scope} {own : List (Str × Nat)} {mi : Ev → W (List D)} {gT : TG} {T : D → Ev → Option Ev} {vT : List Nat} {me : EM} (hc : X.calm = true) (hN : X.N.Nodup)
    (hi : DI X g B E tg iter mi) (ok : BlkOk X.N X.env.scope scope own)
    (hg : ∀ (s : Shared) (H : Hp) (C : Addr) (cl : List (Str × Addr)) (fp : List Addr), PG (X.blk s H scope (compEnvC scope cl C X.env) fp) tg gT) (tk : TgOk X g gT T vT) (hsub : ∀ i ∈ vT, i ∈ own.map (·.2))
    (ht : ∀ (s : Shared) (H : Hp) (C : Addr) (cl : List (Str × Addr)) (fp : List Addr) (B' : Hp × Hp), DTs (X.blk s H scope (compEnvC scope cl C X.env) fp) g B' EF ifs mc)
    (he : ∀ (s : Shared) (H : Hp) (C : Addr) (cl : List (Str × Addr)) (fp : List Addr) (B' : Hp × Hp), DE (X.blk s H scope (compEnvC scope cl C X.env) fp) g B' EF elt me)
    (hsw : swapsWith (.ListComp elt [⟨tg, iter, ifs, 0⟩] scope pos) (some (.Name y py)) spos.line X.env = pure true) (hy : X.N[i]? = some y := by rfl) (hyl : X.env.scope.names.lookup y = some .local := by rfl) (hs : ∀ x, foldedSetIterable iter X.env x = pure x := by intro _; rfl) :
    DS X g B E (.Assign [.Name y py] (.ListComp elt [⟨tg, iter, ifs, 0⟩] scope pos) spos) (sSet i (eLc (own.map (·.2)) T mi mc me)) :=
  ps_imp (ps_setLc (i := i) hc hN hy hyl hsw hi ok hg (fun s H C cl fp => pt_any (t := fun B1 => cloT X g B1 EF mc) fun B' => ht s H C cl fp B') (fun s H C cl fp => pe_any (t := fun B1 => clo X g B1 EF me) fun B' => he s H C cl fp B') hs) fun De σ H h => by
    obtain ⟨env, S, k, ok, hm, kk⟩ := h
    exact lc_te (Q := fun x H1 => gName i x σ H1 De.nx) tk hsub ⟨env, S, _, _, ok, hm, fun d v S' H' p ok' ex r => kk.nx _ S' _ H' p (ok'.set i r) ex, kk.er⟩
/-- .. as a list that x alone holds -/
@[simp] def sLo (i : Nat) (own : List Nat) (T : D → Ev → Option Ev) (mi : Ev → W (List D)) (c : Ev → W Bool) (me : EM) : SM := fun env k => mi env (fun xs => xs.length < 16777216 ∧ lcE T c me (blkE own env) xs (fun ys => k.nx (env.set i (.own ys))) k.er) k.er
theorem ds_lco {i : Nat} {y : Str} {py spos : Pos} {elt tg iter : Expr} {ifs : List Expr} {scope : Scope} {own : List (Str × Nat)} {mi : Ev → W (List D)} {gT : TG} {T : D → Ev → Option Ev} {vT : List Nat} {me : EM} (hc : X.calm = true) (hN : X.N.Nodup)
    (hi : DI X g B E tg iter mi) (ok : BlkOk X.N X.env.scope scope own)
    (hg : ∀ (s : Shared) (H : Hp) (C : Addr) (cl : List (Str × Addr)) (fp : List Addr), PG (X.blk s H scope (compEnvC scope cl C X.env) fp) tg gT) (tk : TgOk X g gT T vT) (hsub : ∀ i ∈ vT, i ∈ own.map (·.2))
    (ht : ∀ (s : Shared) (H : Hp) (C : Addr) (cl : List (Str × Addr)) (fp : List Addr) (B' : Hp × Hp), DTs (X.blk s H scope (compEnvC scope cl C X.env) fp) g B' EF ifs mc)
    (he : ∀ (s : Shared) (H : Hp) (C : Addr) (cl : List (Str × Addr)) (fp : List Addr) (B' : Hp × Hp), DE (X.blk s H scope (compEnvC scope cl C X.env) fp) g B' EF elt me)
    (hsw : swapsWith (.ListComp elt [⟨tg, iter, ifs, 0⟩] scope pos) (some (.Name y py)) spos.line X.env = pure true) (hy : X.N[i]? = some y := by rfl) (hyl : X.env.scope.names.lookup y = some .local := by rfl) (hs : ∀ x, foldedSetIterable iter X.env x = pure x := by intro _; rfl) :
    DS X g B E (.Assign [.Name y py] (.ListComp elt [⟨tg, iter, ifs, 0⟩] scope pos) spos) (sLo i (own.map (·.2)) T mi mc me) :=
  ps_imp (ps_setLc (i := i) hc hN hy hyl hsw hi ok hg (fun s H C cl fp => pt_any (t := fun B1 => cloT X g B1 EF mc) fun B' => ht s H C cl fp B') (fun s H C cl fp => pe_any (t := fun B1 => clo X g B1 EF me) fun B' => he s H C cl fp B') hs) fun De σ H h => by
    obtain ⟨env, S, k, ok, hm, kk⟩ := h
    exact lc_own (Q := fun x H1 => gName i x σ H1 De.nx) tk hsub ok hm kk.er fun ys D acc S2 H2 q ok2 ex2 s2 nB nR hd2 rp hno => kk.nx _ S2 _ H2 q (ok2.take i s2 nB nR hd2 rp hno) ex2
theorem ds_p2 {i j : Nat} {x y : Str} {px py pt : Pos} {kt k2 : Nat} {pt2 : Pos} (hc : X.calm = true) (hN : X.N.Nodup) (ha : DAr X g B E [a, b] ml) (hi : X.N[i]? = some x := by rfl) (hj : X.N[j]? = some y := by rfl) (hij : i ≠ j := by decide)
    (hx : X.env.scope.names.lookup x = some .local := by rfl) (hy : X.env.scope.names.lookup y = some .local := by rfl)
    (hw : swappedStores [.Tuple [.Name x px, .Name y py] kt pt] (.Tuple [a, b] k2 pt2) X.env = pure (some [x, y]) := by rfl)
    (hs : swapsWithSole [.Tuple [.Name x px, .Name y py] kt pt] (.Tuple [a, b] k2 pt2) pos.line X.env = pure false := by rfl) :
    DS X g B E (.Assign [.Tuple [.Name x px, .Name y py] kt pt] (.Tuple [a, b] k2 pt2) pos) (sPr [i, j] ml) :=
  ps_imp (ps_par (i := i) (j := j) hc hN hi hj hij hx hy ha hw hs) fun De σ H h => by
    obtain ⟨env, S, k, ok, hm, kk⟩ := h
    refine ⟨env, S, _, _, ok, hm, fun ds vs S' H' p ok' ex r => ?_, kk.er⟩
    match ds, p with
    | [d1, d2], p =>
      unfold Reps at r
      obtain ⟨w, ws, rfl, r1, r⟩ := r
      unfold Reps at r
      obtain ⟨w2, ws2, rfl, r2, r⟩ := r
      unfold Reps at r
      subst r
      exact ⟨w, w2, rfl, kk.nx _ S' _ H' p ((ok'.set i r1).set j r2) ex⟩
theorem ds_p3 {i j l : Nat} {x y z : Str} {px py pz pt : Pos} {kt k2 : Nat} {pt2 : Pos} (hc : X.calm = true) (hN : X.N.Nodup) (ha : DAr X g B E [a, b, c] ml) (hi : X.N[i]? = some x := by rfl) (hj : X.N[j]? = some y := by rfl) (hl : X.N[l]? = some z := by rfl)
    (hij : i ≠ j := by decide) (hil : i ≠ l := by decide) (hjl : j ≠ l := by decide)
    (hx : X.env.scope.names.lookup x = some .local := by rfl) (hy : X.env.scope.names.lookup y = some .local := by rfl) (hz : X.env.scope.names.lookup z = some .local := by rfl)
    (hw : swappedStores [.Tuple [.Name x px, .Name y py, .Name z pz] kt pt] (.Tuple [a, b, c] k2 pt2) X.env = pure (some [x, y, z]) := by rfl)
    (hs : swapsWithSole [.Tuple [.Name x px, .Name y py, .Name z pz] kt pt] (.Tuple [a, b, c] k2 pt2) pos.line X.env = pure false := by rfl) :
    DS X g B E (.Assign [.Tuple [.Name x px, .Name y py, .Name z pz] kt pt] (.Tuple [a, b, c] k2 pt2) pos) (sPr [i, j, l] ml) :=
  ps_imp (ps_par3 (i := i) (j := j) (l := l) hc hN hi hj hl hij hil hjl hx hy hz ha hw hs) fun De σ H h => by
    obtain ⟨env, S, k, ok, hm, kk⟩ := h
    refine ⟨env, S, _, _, ok, hm, fun ds vs S' H' p ok' ex r => ?_, kk.er⟩
    match ds, p with
    | [d1, d2, d3], p =>
      unfold Reps at r
      obtain ⟨w, ws, rfl, r1, r⟩ := r
      unfold Reps at r
      obtain ⟨w2, ws2, rfl, r2, r⟩ := r
      unfold Reps at r
      obtain ⟨w3, ws3, rfl, r3, r⟩ := r
      unfold Reps at r
      subst r
      exact ⟨w, w2, w3, rfl, kk.nx _ S' _ H' p (((ok'.set i r1).set j r2).set l r3) ex⟩
/-- target = e -/
theorem ds_tg {tg : Expr} {gT : TG} {T : D → Ev → Option Ev} {vT : List Nat} (ha : DE X g B E a ma) (hg : PG X tg gT) (tk : TgOk X g gT T vT) (hs : swapsWithSole [tg] a pos.line X.env = pure false := by rfl) (hw : swappedStores [tg] a X.env = pure none := by rfl)
    (h1 : (assignEach [tg] X.env).map (·.2) = [assign tg X.env] := by rfl) : DS X g B E (.Assign [tg] a pos) (sTg T ma) := ps_imp (ps_asg ha hg hs hw h1) fun De σ H h => by
  obtain ⟨env, S, k, ok, hm, kk⟩ := h
  refine ⟨env, S, _, _, ok, hm, fun d v S' H' p ok' ex r => ?_, kk.er⟩
  cases e : T d env with
  | none =>
    rw [e] at p
    exact p.elim
  | some env' =>
    rw [e] at p
    exact tk.run B d v σ H' env env' S' _ ok' r e fun σ' ok2 _ _ => kk.nx env' S' σ' H' p ok2 ex
theorem ds_if {s1 s2 : List Stmt} (hc : DT X g B E c mc) (h1 : DSs X g B E s1 m) (h2 : DSs X g B E s2 m2) : DS X g B E (.If c s1 s2 pos) (sIf mc m m2) := ps_imp (ps_if hc h1 h2) fun De σ H h => by
  obtain ⟨env, S, k, ok, hm, kk⟩ := h
  refine ⟨env, S, _, _, ok, hm, fun b S' H' p ok' ex => ?_, kk.er⟩
  cases b with
  | true => exact ⟨env, S', k, ok', p, kk.mono ex⟩
  | false => exact ⟨env, S', k, ok', p, kk.mono ex⟩
theorem ds_nil {i : Nat} {x : Str} {pos' pos2 : Pos} (hN : X.N.Nodup) (hi : X.N[i]? = some x := by rfl) (hx : Loc X.env.scope x := by first | exact Or.inl rfl | exact Or.inr rfl)
    (hs : swapsWith (.List [] pos2) (some (.Name x pos')) pos.line X.env = pure false := by rfl) (hf : X.fn x = true ∨ X.env.scope.names.lookup x = some .local := by first | exact .inl rfl | exact .inr rfl) : DS X g B E (.Assign [.Name x pos'] (.List [] pos2) pos) (sNil i) :=
  ps_imp (ps_set (i := i) hN hi hx (pe_lst pa_nil) hs hf) fun De σ H h => by
    obtain ⟨env, S, k, ok, hm, kk⟩ := h
    exact ⟨by show 0 ≤ sizeLine; decide, fun p hp => kk.nx _ S _ _ hm (ok.own i hp Reps.nil) (Ex.rf _)⟩
theorem ds_app {i : Nat} {x : Str} {p1 apos cpos : Pos} (ha : DE X g B E a ma) (hN : X.N[i]? = some x := by rfl) (hv : Vis X.env.scope x := by first | exact Or.inl rfl | exact Or.inr (Or.inl rfl) | exact Or.inr (Or.inr rfl))
    (hd : (x == ("__debug__" : Str)) = false := by decide) (hcd : (x == ("__classdict__" : Str)) = false := by decide)
    (hp : ∀ {ta : TE} {t : TA}, PE X (.Name x p1) ta → PA X [a] t → PE X (.Call (.Attribute (.Name x p1) "append" apos) [a] [] cpos) (tBM X.K "list" rAppend ta t)) (hst : starEach [a] X.env = (false, eval a X.env) :: starEach [] X.env := by rfl)
    (hs : swapsWith (.Call (.Attribute (.Name x p1) "append" apos) [a] [] cpos) none pos.line X.env = pure false := by rfl) : DS X g B E (.Expr (.Call (.Attribute (.Name x p1) "append" apos) [a] [] cpos) pos) (sApp i ma) :=
  ps_imp (ps_expr (hp (pe_var (i := i) hN hv hd hcd) (pa_cons ha pa_nil hst)) hs) fun De σ H h => by
    obtain ⟨env, S, k, ok, hm, kk⟩ := h
    unfold sApp at hm
    cases e : env[i]? with
    | none =>
      rw [e] at hm
      exact hm.elim
    | some s =>
      rw [e] at hm
      cases s with
      | un => exact hm.elim
      | sh d => exact hm.elim
      | own l =>
        obtain ⟨q, vs, h1, h2, h3, h4, h5, h6⟩ := ok.slots i _ e
        refine ⟨.ref q, h1, .inl ⟨rfl, _, .inl (.inl h5)⟩, env, S, _, _, ok, hm, fun d v S' H' p ok' ex r => ?_, kk.er⟩
        obtain ⟨q', vs', y1, y2, y3, y4, y5, y6⟩ := ok'.slots i _ e
        rw [h1] at y1
        have eq' : q = q' := by simpa using y1
        subst eq'
        refine ⟨q, vs', v, rfl, rfl, y5, by rw [← y6.len, sizeLine_eq]; exact p.1, ?_⟩
        exact kk.nx _ S' σ _ p.2 (ok'.wr e h1 (y6.app (Reps.cons r Reps.nil))) ex
/-- for target in iter -/
theorem ds_for {tg iter : Expr} {body : List Stmt} {gT : TG} {T : D → Ev → Option Ev} {vT kl : List Nat} {mi : Ev → W (List D)} (hp : PassesOwn (model X.prog X.w) X.A X.env X.xe) (hc : X.calm = true) (hi : DI X g B E tg iter mi) (hg : PG X tg gT) (tk : TgOk X g gT T vT)
    (hb : DSs X g B E body m) (hs : ∀ x, foldedSetIterable iter X.env x = pure x := by intro _; rfl) : DS X g B E (.For tg iter body [] pos) (sFor T kl mi m) := ps_imp (ps_for hp hc hi hg hb hs) fun De σ H h => by
  obtain ⟨env, S, k, ok, hm, kk⟩ := h
  refine ⟨env, S, _, _, ok, hm, fun ds J S1 H1 p1 ok1 ex1 it => ?_, kk.er⟩
  refine ⟨fun i m' σ' H' => m' = ds.length - i ∧ i ≤ ds.length ∧ ∃ env' S', Ex S1 S' ∧ Ok X.K X.mg g B env' S' σ' H' ∧ forS T kl m (ds.drop i) env' k, ⟨ds.length, by simp, Nat.zero_le _, env, S1, Ex.rf _, ok1, by simpa using p1⟩, ?_⟩
  rintro i m' σ' H' ⟨rfl, hi, env', S', ex', ok', q⟩
  obtain ⟨it1, it2⟩ := it i S' H' ex' ok'.frm.le
  by_cases hlt : i < ds.length
  · right
    have e0 : ds[i]? = some ds[i] := List.getElem?_eq_getElem hlt
    obtain ⟨go, yl⟩ := it1 _ e0
    rw [List.drop_eq_getElem_cons hlt] at q
    unfold forS at q
    refine ⟨go, fun σ2 H2 => ∃ env' S', Ex S1 S' ∧ Ok X.K X.mg g B env' S' σ2 H2 ∧ forS T kl m (ds.drop (i + 1)) env' k, fun σ2 H2 z => ⟨ds.length - (i + 1), by omega, rfl, by omega, z⟩, fun x H3 y => ?_⟩
    obtain ⟨S3, n3, r3⟩ := yl x H3 y
    have ok3 := ok'.new n3
    cases et : T ds[i] env' with
    | none =>
      rw [et] at q
      exact q.elim
    | some env1 =>
      rw [et] at q
      refine tk.run B _ x σ' H3 env' env1 S3 _ ok3 r3 et fun σ2 ok4 _ _ => ?_
      have e3 := ex'.tr n3.ss
      refine ⟨env1, S3, _, ok4, q, fun e2 S2 σ3 H4 q2 ok5 ex5 => ⟨_, S2, e3.tr ex5, ok5.kil kl, q2⟩, kk.rt, fun e2 S2 σ3 H4 q2 ok5 ex5 => ?_, fun e2 S2 σ3 H4 q2 ok5 ex5 => ⟨_, S2, e3.tr ex5, ok5.kil kl, q2⟩, kk.er⟩
      exact kk.nx _ S2 σ3 H4 q2 (ok5.kil kl) ((ex1.tr e3).tr ex5)
  · left
    have e : i = ds.length := by omega
    subst e
    rw [List.drop_length] at q
    exact ⟨it2 (by simp), kk.nx env' S' σ' H' q ok' (ex1.tr ex')⟩
theorem ds_wh {body : List Stmt} {kl : List Nat} (hp : PassesOwn (model X.prog X.w) X.A X.env X.xe) (hc : DT X g B E c mc) (hb : DSs X g B E body m) : DS X g B E (.While c body [] pos) (sWh kl mc m) := ps_imp (ps_while hp hc hb) fun De σ H h => by
  obtain ⟨env, S, k, ok, ⟨I, ⟨m0, i0⟩, step⟩, kk⟩ := h
  refine ⟨fun n σ' H' => ∃ env' S', Ex S S' ∧ Ok X.K X.mg g B env' S' σ' H' ∧ I n env', ⟨m0, env, S, Ex.rf _, ok, i0⟩, ?_⟩
  rintro n σ' H' ⟨env', S', ex', ok', hi⟩
  refine ⟨env', S', _, _, ok', step n env' hi, fun t S2 H2 p ok2 ex2 => ?_, kk.er⟩
  cases t with
  | false => exact kk.nx env' S2 σ' H2 p ok2 (ex'.tr ex2)
  | true =>
    refine ⟨fun σ3 H3 => ∃ m', m' < n ∧ ∃ env3 S3, Ex S S3 ∧ Ok X.K X.mg g B env3 S3 σ3 H3 ∧ I m' env3, fun σ3 H3 ⟨m', h1, h2⟩ => ⟨m', h1, h2⟩, ?_⟩
    refine ⟨env', S2, _, ok2, p, fun e4 S4 σ4 H4 q ok4 ex4 => ?_, kk.rt, fun e4 S4 σ4 H4 q ok4 ex4 => ?_, fun e4 S4 σ4 H4 q ok4 ex4 => ?_, kk.er⟩
    · obtain ⟨m', h1, h2⟩ := q
      exact ⟨m', h1, _, S4, (ex'.tr ex2).tr ex4, ok4.kil kl, h2⟩
    · exact kk.nx _ S4 σ4 H4 q (ok4.kil kl) ((ex'.tr ex2).tr ex4)
    · obtain ⟨m', h1, h2⟩ := q
      exact ⟨m', h1, _, S4, (ex'.tr ex2).tr ex4, ok4.kil kl, h2⟩
end
end DL

set_option Elab.async false
set_option linter.all false
set_option maxRecDepth 100000
set_option maxHeartbeats 2000000
/-! DO: operations upon data. -/
namespace DL
open PySem PySem.Spec PyProof.Rows L2

theorem opr_or {X : Cx} {f : Value → Value → Sem Value} {r s : R2} (h : OpR X f r) (k : OpR X f s) : OpR X f (fun x y H Q => r x y H Q ∨ s x y H Q) := fun pins sh σ H x y v u Q I rx ry q => q.elim (h pins sh σ H x y v u Q I rx ry) (k pins sh σ H x y v u Q I rx ry)
theorem callr_or {X : Cx} {f : Value} {r s : List V → Hp → VK → Prop} (h : CallR X f r) (k : CallR X f s) : CallR X f (fun xs H Q => r xs H Q ∨ s xs H Q) := fun pins sh σ H xs us Q I rx q => q.elim (h pins sh σ H xs us Q I rx) (k pins sh σ H xs us Q I rx)

/-! ### reading data -/
mutual
@[simp] def toPy : D → Option PyData
  | .non => some .none
  | .bl b => some (.bool b)
  | .int i => some (.int i)
  | .str x => some (.str x)
  | .tup l => (toPys l).map PyData.tuple
  | .lst l => (toPys l).map PyData.list
  | _ => none
@[simp] def toPys : List D → Option (List PyData)
  | [] => some []
  | d :: ds => (toPy d).bind fun p => (toPys ds).map fun ps => p :: ps
end
section
variable {K : PySem.W.Frag} {mg : Str → Option Value} {g : Gd} {S H : Hp}
mutual
theorem dp_of (l : Le S H) : ∀ (d : D) (v : V) (p : PyData), Rep K mg g S d v → toPy d = some p → Dp K H v p
  | .non, v, p, r, e => by
    unfold Rep at r
    subst r
    cases Option.some.inj e
    exact .non
  | .bl b, v, p, r, e => by
    unfold Rep at r
    subst r
    cases Option.some.inj e
    exact .bl b
  | .int b, v, p, r, e => by
    unfold Rep at r
    subst r
    cases Option.some.inj e
    exact .int b
  | .str b, v, p, r, e => by
    unfold Rep at r
    subst r
    cases Option.some.inj e
    exact .str b
  | .tup ds, v, p, r, e => by
    unfold Rep at r
    obtain ⟨a, vs, rfl, h2, h3⟩ := r
    unfold toPy at e
    cases q : toPys ds with
    | none =>
      rw [q] at e
      cases e
    | some ps =>
      rw [q] at e
      cases Option.some.inj e
      exact .tup (l.sqT h2) (dps_of l ds vs ps h3 q)
  | .lst ds, v, p, r, e => by
    unfold Rep at r
    obtain ⟨a, vs, rfl, h2, h3⟩ := r
    unfold toPy at e
    cases q : toPys ds with
    | none =>
      rw [q] at e
      cases e
    | some ps =>
      rw [q] at e
      cases Option.some.inj e
      exact .lst (l.sqL (SqL.of h2)) (dps_of l ds vs ps h3 q)
  | .fn _, v, p, r, e => by cases e
  | .ty _, v, p, r, e => by cases e
  | .exc _ _ _, v, p, r, e => by cases e
  | .ins _ _ _, v, p, r, e => by cases e
  | .dic _ _, v, p, r, e => by cases e
  | .drw, v, p, r, e => by cases e
  | .scr _, v, p, r, e => by cases e
theorem dps_of (l : Le S H) : ∀ (ds : List D) (vs : List V) (ps : List PyData), Reps K mg g S ds vs → toPys ds = some ps → DpAll K H vs ps
  | [], vs, ps, r, e => by
    unfold Reps at r
    subst r
    cases Option.some.inj e
    exact .nil
  | d :: ds, vs, ps, r, e => by
    unfold Reps at r
    obtain ⟨w, ws, rfl, h2, h3⟩ := r
    unfold toPys at e
    cases q : toPy d with
    | none =>
      rw [q] at e
      cases e
    | some p =>
      rw [q] at e
      cases q2 : toPys ds with
      | none =>
        rw [q2] at e
        cases e
      | some ps' =>
        rw [q2] at e
        cases Option.some.inj e
        exact .cons (dp_of l d w p h2 q) (dps_of l ds ws ps' h3 q2)
end
end

/-! ### two-place operations -/
def dAdd : D → D → W D
  | .int i, .int j => fun P _ => P (.int (i + j))
  | .str x, .str y => fun P _ => x.length + y.length ≤ 16777216 ∧ P (.str (x ++ y))
  | .lst l, .lst m => fun P _ => l.length + m.length ≤ 16777216 ∧ P (.lst (l ++ m))
  | .tup l, .tup m => fun P _ => l.length + m.length ≤ 16777216 ∧ P (.tup (l ++ m))
  | _, _ => W.fail
def rAdd (K : PySem.W.Frag) : R2 := fun x y H Q => (rI0 (fun i j => .int (i + j)) x y H Q ∨ (∃ i j, x = .str i ∧ y = .str j ∧ i.length + j.length ≤ sizeLine ∧ Q (.str (i ++ j)) H)) ∨ (rCat x y H Q ∨ rCatA K x y H Q)
theorem op_dadd {X : Cx} : OpR X (binaryOp .Add) (rAdd X.K) := opr_or (opr_or op_add op_add_str) (opr_or op_cat op_catA)
theorem dadd_ok {X : Cx} {g : Gd} : Op2 X g dAdd (rAdd X.K) := fun a b x y B S H P Z Q f rx ry h k => by
  have sl := sizeLine_eq
  unfold dAdd at h
  split at h
  · unfold Rep at rx ry
    subst rx ry
    exact .inl (.inl ⟨_, _, rfl, rfl, k _ _ S H h (New.rf f.le) (by unfold Rep; rfl)⟩)
  · unfold Rep at rx ry
    subst rx ry
    exact .inl (.inr ⟨_, _, rfl, rfl, by omega, k _ _ S H h.2 (New.rf f.le) (by unfold Rep; rfl)⟩)
  · rename_i l m
    unfold Rep at rx ry
    obtain ⟨p, vs, rfl, h2, h3⟩ := rx
    obtain ⟨q, ws, rfl, h4, h5⟩ := ry
    have z1 := h3.len
    have z2 := h5.len
    have e1 : H p = some (.lst vs) := (f.le _ _ h2).resolve_right (fun z => by cases z.1)
    have e2 : H q = some (.lst ws) := (f.le _ _ h4).resolve_right (fun z => by cases z.1)
    refine .inr (.inl ⟨p, q, vs, ws, rfl, rfl, e1, e2, by omega, fun t ht => ?_⟩)
    have n := New.add (o := .lst (vs ++ ws)) f.le ht (fun ps z => by cases z)
    exact k _ _ _ _ h.2 n (by unfold Rep; exact ⟨t, _, rfl, upd_same, (h3.mono n.ss).app (h5.mono n.ss)⟩)
  · rename_i l m
    unfold Rep at rx ry
    obtain ⟨p, vs, rfl, h2, h3⟩ := rx
    obtain ⟨q, ws, rfl, h4, h5⟩ := ry
    have z1 := h3.len
    have z2 := h5.len
    refine .inr (.inr ⟨p, q, vs, ws, rfl, rfl, f.le.sqT h2, f.le.sqT h4, by omega, fun e => ?_, fun e e' => ?_, fun e e' t ht => ?_⟩)
    · subst e
      have e' : l = [] := List.length_eq_zero_iff.mp (by rw [z1]; rfl)
      subst e'
      exact k _ _ S H h.2 (New.rf f.le) (by unfold Rep; exact ⟨q, ws, rfl, h4, h5⟩)
    · subst e'
      have e' : m = [] := List.length_eq_zero_iff.mp (by rw [z2]; rfl)
      subst e'
      rw [List.append_nil] at h
      exact k _ _ S H h.2 (New.rf f.le) (by unfold Rep; exact ⟨p, vs, rfl, h2, h3⟩)
    · have n := New.add (o := .tup (vs ++ ws)) f.le ht (fun ps z => by cases z)
      exact k _ _ _ _ h.2 n (by unfold Rep; exact ⟨t, _, rfl, SqT.of upd_same, (h3.mono n.ss).app (h5.mono n.ss)⟩)
  · exact h.elim
@[simp] theorem dAdd_ii (i j : Int) : dAdd (.int i) (.int j) = fun P _ => P (.int (i + j)) := rfl
@[simp] theorem dAdd_ss (x y : Str) : dAdd (.str x) (.str y) = fun P _ => x.length + y.length ≤ 16777216 ∧ P (.str (x ++ y)) := rfl
@[simp] theorem dAdd_ll (x y : List D) : dAdd (.lst x) (.lst y) = fun P _ => x.length + y.length ≤ 16777216 ∧ P (.lst (x ++ y)) := rfl
@[simp] theorem dAdd_tt (x y : List D) : dAdd (.tup x) (.tup y) = fun P _ => x.length + y.length ≤ 16777216 ∧ P (.tup (x ++ y)) := rfl
/-- an operation of two ints, under a condition -/
def dI (C : Int → Int → Prop) (f : Int → Int → D) : D → D → W D
  | .int i, .int j => fun P _ => C i j ∧ P (f i j)
  | _, _ => W.fail
@[simp] theorem dI_ii (C : Int → Int → Prop) (f : Int → Int → D) (i j : Int) : dI C f (.int i) (.int j) = fun P _ => C i j ∧ P (f i j) := rfl
theorem dI_ok {X : Cx} {g : Gd} {C : Int → Int → Prop} {f : Int → Int → D} {v : Int → Int → V} (hv : ∀ i j S, Rep X.K X.mg g S (f i j) (v i j)) : Op2 X g (dI C f) (rI C v) := fun a b x y B S H P Z Q fr rx ry h k => by
  unfold dI at h
  split at h
  · unfold Rep at rx ry
    subst rx ry
    exact ⟨_, _, rfl, rfl, h.1, k _ _ S H h.2 (New.rf fr.le) (hv _ _ _)⟩
  · exact h.elim
def dI0 (f : Int → Int → D) : D → D → W D
  | .int i, .int j => fun P _ => P (f i j)
  | _, _ => W.fail
@[simp] theorem dI0_ii (f : Int → Int → D) (i j : Int) : dI0 f (.int i) (.int j) = fun P _ => P (f i j) := rfl
theorem dI0_ok {X : Cx} {g : Gd} {f : Int → Int → D} {v : Int → Int → V} (hv : ∀ i j S, Rep X.K X.mg g S (f i j) (v i j)) : Op2 X g (dI0 f) (rI0 v) := fun a b x y B S H P Z Q fr rx ry h k => by
  unfold dI0 at h
  split at h
  · unfold Rep at rx ry
    subst rx ry
    exact ⟨_, _, rfl, rfl, k _ _ S H h (New.rf fr.le) (hv _ _ _)⟩
  · exact h.elim
theorem ri {K : PySem.W.Frag} {mg : Str → Option Value} {g : Gd} (i : Int) (S : Hp) : Rep K mg g S (.int i) (.int i) := by unfold Rep; rfl
theorem rb {K : PySem.W.Frag} {mg : Str → Option Value} {g : Gd} (i : Bool) (S : Hp) : Rep K mg g S (.bl i) (.bl i) := by unfold Rep; rfl
theorem rs {K : PySem.W.Frag} {mg : Str → Option Value} {g : Gd} (i : Str) (S : Hp) : Rep K mg g S (.str i) (.str i) := by unfold Rep; rfl
@[simp] def dSub : D → D → W D := dI0 fun i j => .int (i - j)
@[simp] def dMul : D → D → W D := dI CMulW fun i j => .int (i * j)
@[simp] def dDiv : D → D → W D := dI CDivW fun i j => .int (i / j)
@[simp] def dMod : D → D → W D := dI (fun _ j => 0 < j) fun i j => .int (i % j)
@[simp] def dPow : D → D → W D := dI CPow fun i j => .int (i ^ j.toNat)
@[simp] def dLt : D → D → W D := dI0 fun i j => .bl (decide (i < j))
@[simp] def dLe : D → D → W D := dI0 fun i j => .bl (decide (i ≤ j))
@[simp] def dGt : D → D → W D := dI0 fun i j => .bl (decide (j < i))
@[simp] def dGe : D → D → W D := dI0 fun i j => .bl (decide (j ≤ i))
def dEq (a b : D) : W D := fun P _ => match a, b with
  | .str x, .str y => P (.bl (decide (x = y)))
  | a, b => match toPy a, toPy b with
    | some p, some q => (SeqAt.shaped p = true ∧ SeqAt.shaped q = true) ∧ P (.bl (PyData.eqv p q))
    | _, _ => False
def dNe (a b : D) : W D := fun P _ => match a, b with
  | .str x, .str y => P (.bl (!decide (x = y)))
  | a, b => match toPy a, toPy b with
    | some p, some q => (SeqAt.shaped p = true ∧ SeqAt.shaped q = true) ∧ P (.bl (!PyData.eqv p q))
    | _, _ => False
def dIsN (a b : D) : W D := fun P _ => match b with
  | .non => P (.bl (match a with
    | .non => true
    | _ => false))
  | _ => False
def dNoN (a b : D) : W D := fun P _ => match b with
  | .non => P (.bl (match a with
    | .non => false
    | _ => true))
  | _ => False
section
variable {X : Cx} {g : Gd} {B : Hp × Hp} {E : XK} {a b c : Expr} {pos : Pos} {ma mb mc : EM}
theorem de_add (ha : DE X g B E a ma) (hb : DE X g B E b mb) : DE X g B E (.BinOp a .Add b pos) (e2 dAdd ma mb) := de_op op_dadd dadd_ok ha hb
theorem de_sub (ha : DE X g B E a ma) (hb : DE X g B E b mb) : DE X g B E (.BinOp a .Sub b pos) (e2 dSub ma mb) := de_op op_sub (dI0_ok fun i j S => ri _ S) ha hb
theorem de_mul (ha : DE X g B E a ma) (hb : DE X g B E b mb) : DE X g B E (.BinOp a .Mult b pos) (e2 dMul ma mb) := de_op op_mulW (dI_ok fun i j S => ri _ S) ha hb
theorem de_div (ha : DE X g B E a ma) (hb : DE X g B E b mb) : DE X g B E (.BinOp a .FloorDiv b pos) (e2 dDiv ma mb) := de_op op_fdivW (dI_ok fun i j S => ri _ S) ha hb
theorem de_mod (ha : DE X g B E a ma) (hb : DE X g B E b mb) : DE X g B E (.BinOp a .Mod b pos) (e2 dMod ma mb) := de_op op_mod (dI_ok fun i j S => ri _ S) ha hb
theorem de_pow (ha : DE X g B E a ma) (hb : DE X g B E b mb) : DE X g B E (.BinOp a .Pow b pos) (e2 dPow ma mb) := de_op op_pow (dI_ok fun i j S => ri _ S) ha hb
theorem dlt_ok : Op2 X g dLt (rI0 fun i j => .bl (decide (i < j))) := dI0_ok fun i j S => rb _ S
theorem dle_ok : Op2 X g dLe (rI0 fun i j => .bl (decide (i ≤ j))) := dI0_ok fun i j S => rb _ S
theorem dgt_ok : Op2 X g dGt (rI0 fun i j => .bl (decide (j < i))) := dI0_ok fun i j S => rb _ S
theorem dge_ok : Op2 X g dGe (rI0 fun i j => .bl (decide (j ≤ i))) := dI0_ok fun i j S => rb _ S
theorem dec_str {x y : Str} : decide (V.str x = V.str y) = decide (x = y) := by
  by_cases h : x = y
  · rw [decide_eq_true h, decide_eq_true (by rw [h])]
  · rw [decide_eq_false h, decide_eq_false (fun z => h (by cases z; rfl))]
@[simp] theorem dEq_ss (x y : Str) : dEq (.str x) (.str y) = fun P _ => P (.bl (decide (x = y))) := rfl
@[simp] theorem dNe_ss (x y : Str) : dNe (.str x) (.str y) = fun P _ => P (.bl (!decide (x = y))) := rfl
theorem deq_ok : Op2 X g dEq (fun x y H Q => rEq x y H Q ∨ rEqD X.K x y H Q) := fun a b x y B S H P Z Q f rx ry h k => by
  unfold dEq at h
  split at h
  · unfold Rep at rx ry
    subst rx ry
    refine .inl ⟨rfl, ?_⟩
    rw [dec_str]
    exact k _ _ S H h (New.rf f.le) (rb _ S)
  · split at h
    · rename_i p q e1 e2
      exact .inr ⟨p, q, dp_of f.le _ x p rx e1, dp_of f.le _ y q ry e2, h.1.1, h.1.2, k _ _ S H h.2 (New.rf f.le) (rb _ S)⟩
    · exact h.elim
theorem dne_ok : Op2 X g dNe (fun x y H Q => rNe x y H Q ∨ rNeD X.K x y H Q) := fun a b x y B S H P Z Q f rx ry h k => by
  unfold dNe at h
  split at h
  · unfold Rep at rx ry
    subst rx ry
    refine .inl ⟨rfl, ?_⟩
    rw [dec_str]
    exact k _ _ S H h (New.rf f.le) (rb _ S)
  · split at h
    · rename_i p q e1 e2
      exact .inr ⟨p, q, dp_of f.le _ x p rx e1, dp_of f.le _ y q ry e2, h.1.1, h.1.2, k _ _ S H h.2 (New.rf f.le) (rb _ S)⟩
    · exact h.elim
theorem op_eqE (hu : X.A.units + 64 < cLine) : OpR X (compareOp .Eq) (fun x y H Q => rEq x y H Q ∨ rEqD X.K x y H Q) := opr_or op_eq (op_eqD hu)
theorem op_neE (hu : X.A.units + 64 < cLine) : OpR X (compareOp .NotEq) (fun x y H Q => rNe x y H Q ∨ rNeD X.K x y H Q) := opr_or op_ne (op_neD hu)
theorem nonE {S : Hp} {d : D} {v : V} (r : Rep X.K X.mg g S d v) (hd : d ≠ .drw) : decide (v = V.non) = (match d with
    | .non => true
    | _ => false) := by
  cases d <;> first
    | (unfold Rep at r; subst r; first | rfl | exact decide_eq_false (fun z => by cases z))
    | (unfold Rep at r; obtain ⟨p, vs, rfl, _⟩ := r; exact decide_eq_false (fun z => by cases z))
    | (unfold Rep at r; obtain ⟨p, rfl, _⟩ := r; exact decide_eq_false (fun z => by cases z))
    | (unfold Rep at r; obtain ⟨p, q, t, vs, rfl, _⟩ := r; exact decide_eq_false (fun z => by cases z))
    | exact absurd rfl hd
    | (unfold Rep at r; obtain ⟨a, kv, _, us, _, _, _, _, _, z⟩ := r; exact z.elim)
end
end DL

set_option Elab.async false
set_option linter.all false
set_option maxRecDepth 100000
set_option maxHeartbeats 2000000
/-! DP: further operations: is, chains, in, items, slices, built-in functions. -/
namespace DL
open PySem PySem.Spec PyProof.Rows L2

@[simp] def isNon : D → Option Bool
  | .non => some true
  | .drw => none
  | _ => some false
@[simp] def dIs (a b : D) : W D := fun P _ => match b, isNon a with
  | .non, some k => P (.bl k)
  | _, _ => False
@[simp] def dNs (a b : D) : W D := fun P _ => match b, isNon a with
  | .non, some k => P (.bl (!k))
  | _, _ => False
@[simp] def intsOf : List D → Option (List Int)
  | [] => some []
  | .int i :: r => (intsOf r).map fun is => i :: is
  | _ => none
@[simp] def bolsOf : List D → Option (List Bool)
  | [] => some []
  | .bl i :: r => (bolsOf r).map fun is => i :: is
  | _ => none
@[simp] def dIn (a b : D) : W D := fun P _ => match toPy a, b with
  | some p, .lst l => match toPys l with
    | some ps => (SeqAt.shaped p = true ∧ SeqAt.shaped (.list ps) = true) ∧ P (.bl (ps.any fun z => PyData.eqv z p))
    | none => False
  | _, _ => False
@[simp] def dNi (a b : D) : W D := fun P _ => match toPy a, b with
  | some p, .lst l => match toPys l with
    | some ps => (SeqAt.shaped p = true ∧ SeqAt.shaped (.list ps) = true) ∧ P (.bl (!ps.any fun z => PyData.eqv z p))
    | none => False
  | _, _ => False
/-- in a tuple of ints -/
@[simp] def dInT (a b : D) : W D := fun P _ => match a, b with
  | .int i, .tup l => match intsOf l with
    | some is => P (.bl (is.contains i))
    | none => False
  | _, _ => False
@[simp] def dNiT (a b : D) : W D := fun P _ => match a, b with
  | .int i, .tup l => match intsOf l with
    | some is => P (.bl (!is.contains i))
    | none => False
  | _, _ => False
@[simp] def dIx (a b : D) : W D := fun P _ => match a, b with
  | .lst l, .int i => match atI l i with
    | some d => P d
    | none => False
  | .tup l, .int i => match atI l i with
    | some d => P d
    | none => False
  | _, _ => False
def cutD (xs : List D) (lo hi : Option Int) : List D := (xs.drop (HT.sIx xs.length 0 lo)).take (HT.sIx xs.length xs.length hi - HT.sIx xs.length 0 lo)
@[simp] def eSl (a : EM) (lo hi : Ev → W (Option Int)) : EM := fun env P Z => a env (fun d => lo env (fun l => hi env (fun h => match d with
  | .lst xs => P (.lst (cutD xs l h))
  | .tup xs => P (.tup (cutD xs l h))
  | _ => False) Z) Z) Z
@[simp] def oNo : Ev → W (Option Int) := fun _ P _ => P none
@[simp] def oSo (a : EM) : Ev → W (Option Int) := fun env P Z => a env (fun d => match d with
  | .int i => P (some i)
  | _ => False) Z
@[simp] def eCh (f h : D → D → W D) (a b c : EM) : EM := fun env P Z => a env (fun x => b env (fun y => f x y (fun z => match z with
  | .bl k => if k = true then c env (fun w => h y w P Z) Z else P (.bl false)
  | _ => False) Z) Z) Z

section
variable {X : Cx} {g : Gd}
theorem ints_of {S : Hp} : ∀ {l : List D} {vs : List V} {is : List Int}, Reps X.K X.mg g S l vs → intsOf l = some is → vs = is.map V.int
  | [], vs, is, r, e => by
    unfold Reps at r
    subst r
    cases Option.some.inj e
    rfl
  | d :: l, vs, is, r, e => by
    unfold Reps at r
    obtain ⟨w, ws, rfl, h2, h3⟩ := r
    cases d <;> first
      | cases e
      | (rename_i i
         cases q : intsOf l with
         | none =>
           simp only [intsOf, q] at e
           cases e
         | some js =>
           simp only [intsOf, q] at e
           cases Option.some.inj e
           unfold Rep at h2
           rw [h2, ints_of h3 q]
           rfl)
theorem bols_of {S : Hp} : ∀ {l : List D} {vs : List V} {is : List Bool}, Reps X.K X.mg g S l vs → bolsOf l = some is → vs = is.map V.bl
  | [], vs, is, r, e => by
    unfold Reps at r
    subst r
    cases Option.some.inj e
    rfl
  | d :: l, vs, is, r, e => by
    unfold Reps at r
    obtain ⟨w, ws, rfl, h2, h3⟩ := r
    cases d <;> first
      | cases e
      | (rename_i i
         cases q : bolsOf l with
         | none =>
           simp only [bolsOf, q] at e
           cases e
         | some js =>
           simp only [bolsOf, q] at e
           cases Option.some.inj e
           unfold Rep at h2
           rw [h2, bols_of h3 q]
           rfl)
theorem isN_ok {S : Hp} {d : D} {v : V} {k : Bool} (r : Rep X.K X.mg g S d v) (e : isNon d = some k) : decide (v = V.non) = k := by
  have hd : d ≠ .drw := fun z => by
    rw [z] at e
    cases e
  rw [nonE r hd]
  cases d <;> first
    | exact Option.some.inj e
    | cases e
theorem dis_ok : Op2 X g dIs (fun x y H Q => y = .non ∧ Q (.bl (decide (x = .non))) H) := fun a b x y B S H P Z Q f rx ry h k => by
  unfold dIs at h
  split at h
  · rename_i kk e
    unfold Rep at ry
    refine ⟨ry, ?_⟩
    rw [isN_ok rx e]
    exact k _ _ S H h (New.rf f.le) (rb _ S)
  · exact h.elim
theorem dns_ok : Op2 X g dNs (fun x y H Q => y = .non ∧ Q (.bl (!decide (x = .non))) H) := fun a b x y B S H P Z Q f rx ry h k => by
  unfold dNs at h
  split at h
  · rename_i kk e
    unfold Rep at ry
    refine ⟨ry, ?_⟩
    rw [isN_ok rx e]
    exact k _ _ S H h (New.rf f.le) (rb _ S)
  · exact h.elim
theorem din_ok : Op2 X g dIn (rInD X.K) := fun a b x y B S H P Z Q f rx ry h k => by
  unfold dIn at h
  split at h
  · rename_i p l e1
    split at h
    · rename_i ps e2
      have hb : toPy (.lst l) = some (.list ps) := by
        unfold toPy
        rw [e2]
        rfl
      exact ⟨p, ps, dp_of f.le a x p rx e1, dp_of f.le _ y _ ry hb, h.1.1, h.1.2, k _ _ S H h.2 (New.rf f.le) (rb _ S)⟩
    · exact h.elim
  · exact h.elim
theorem dni_ok : Op2 X g dNi (rNotInD X.K) := fun a b x y B S H P Z Q f rx ry h k => by
  unfold dNi at h
  split at h
  · rename_i p l e1
    split at h
    · rename_i ps e2
      have hb : toPy (.lst l) = some (.list ps) := by
        unfold toPy
        rw [e2]
        rfl
      exact ⟨p, ps, dp_of f.le a x p rx e1, dp_of f.le _ y _ ry hb, h.1.1, h.1.2, k _ _ S H h.2 (New.rf f.le) (rb _ S)⟩
    · exact h.elim
  · exact h.elim
theorem inV_int (i : Int) : ∀ is : List Int, inV (.int i) (is.map V.int) = is.contains i
  | [] => rfl
  | j :: r => by
    have ih := inV_int i r
    unfold inV at ih ⊢
    rw [List.map_cons, List.any_cons, ih, List.contains_cons]
    show (j == i || _) = (i == j || _)
    rw [Bool.beq_comm]
theorem flat_int : ∀ is : List Int, (is.map V.int).all flatV = true
  | [] => rfl
  | j :: r => by
    rw [List.map_cons, List.all_cons, flat_int r]
    rfl
theorem dint_ok : Op2 X g dInT (rIn X.K false) := fun a b x y B S H P Z Q f rx ry h k => by
  unfold dInT at h
  split at h
  · rename_i i l
    split at h
    · rename_i is e
      unfold Rep at rx ry
      subst rx
      obtain ⟨p, vs, rfl, h2, h3⟩ := ry
      have ev := ints_of h3 e
      subst ev
      refine ⟨p, _, rfl, .inr (f.le.sqT h2), rfl, flat_int is, ?_⟩
      rw [inV_int]
      exact k _ _ S H h (New.rf f.le) (rb _ S)
    · exact h.elim
  · exact h.elim
theorem dnit_ok : Op2 X g dNiT (rIn X.K true) := fun a b x y B S H P Z Q f rx ry h k => by
  unfold dNiT at h
  split at h
  · rename_i i l
    split at h
    · rename_i is e
      unfold Rep at rx ry
      subst rx
      obtain ⟨p, vs, rfl, h2, h3⟩ := ry
      have ev := ints_of h3 e
      subst ev
      refine ⟨p, _, rfl, .inr (f.le.sqT h2), rfl, flat_int is, ?_⟩
      rw [inV_int]
      exact k _ _ S H h (New.rf f.le) (rb _ S)
    · exact h.elim
  · exact h.elim
theorem at_rep {S : Hp} {l : List D} {vs : List V} {i : Int} {d : D} (r : Reps X.K X.mg g S l vs) (e : atI l i = some d) : ∃ v, atI vs i = some v ∧ Rep X.K X.mg g S d v := by
  unfold atI at e ⊢
  rw [← r.len]
  cases q : ixN l.length i with
  | none =>
    rw [q] at e
    cases e
  | some j =>
    rw [q] at e
    exact r.got e
theorem dix_ok : Op2 X g dIx (fun x y H Q => rIxL X.K x y H Q ∨ rIxT X.K x y H Q) := fun a b x y B S H P Z Q f rx ry h k => by
  unfold dIx at h
  split at h
  · rename_i l i
    split at h
    · rename_i d e
      unfold Rep at rx ry
      subst ry
      obtain ⟨p, vs, rfl, h2, h3⟩ := rx
      obtain ⟨v, e1, e2⟩ := at_rep h3 e
      exact .inl ⟨p, vs, i, v, rfl, rfl, f.le.sqL (SqL.of h2), e1, k _ _ S H h (New.rf f.le) e2⟩
    · exact h.elim
  · rename_i l i
    split at h
    · rename_i d e
      unfold Rep at rx ry
      subst ry
      obtain ⟨p, vs, rfl, h2, h3⟩ := rx
      obtain ⟨v, e1, e2⟩ := at_rep h3 e
      exact .inr ⟨p, vs, i, v, rfl, rfl, f.le.sqT h2, e1, k _ _ S H h (New.rf f.le) e2⟩
    · exact h.elim
  · exact h.elim
theorem reps_take {S : Hp} : ∀ {l : List D} {vs : List V} (n : Nat), Reps X.K X.mg g S l vs → Reps X.K X.mg g S (l.take n) (vs.take n)
  | [], vs, n, r => by
    unfold Reps at r
    subst r
    simp [Reps]
  | d :: l, vs, 0, r => by
    simp [Reps]
  | d :: l, vs, n + 1, r => by
    unfold Reps at r
    obtain ⟨w, ws, rfl, h2, h3⟩ := r
    exact Reps.cons h2 (reps_take n h3)
theorem reps_drop {S : Hp} : ∀ {l : List D} {vs : List V} (n : Nat), Reps X.K X.mg g S l vs → Reps X.K X.mg g S (l.drop n) (vs.drop n)
  | [], vs, n, r => by
    unfold Reps at r
    subst r
    simp [Reps]
  | d :: l, vs, 0, r => r
  | d :: l, vs, n + 1, r => by
    unfold Reps at r
    obtain ⟨w, ws, rfl, h2, h3⟩ := r
    exact reps_drop n h3
theorem reps_cut {S : Hp} {l : List D} {vs : List V} (lo hi : Option Int) (r : Reps X.K X.mg g S l vs) : Reps X.K X.mg g S (cutD l lo hi) (cutV vs lo hi) := by
  unfold cutD cutV
  rw [r.len]
  exact reps_take _ (reps_drop _ r)
end
section
variable {X : Cx} {g : Gd} {B : Hp × Hp} {E : XK} {a b c : Expr} {pos p2 : Pos} {ma mb mc : EM} {lo hi : Option Expr} {ml mh : Ev → W (Option Int)}
def cloO (X : Cx) (g : Gd) (B : Hp × Hp) (E : XK) (m : Ev → W (Option Int)) : TO := fun σ H Q => ∃ env S P Z, Ok X.K X.mg g B env S σ H ∧ m env P Z ∧
  (∀ o S' H', P o → Ok X.K X.mg g B env S' σ H' → Ex S S' → Q o H') ∧ (∀ x cls dx S' H', Z x → Frm g B.1 B.2 S' H' → RepX X.K X.mg g S' cls dx x → E cls dx H')
def DO (X : Cx) (g : Gd) (B : Hp × Hp) (E : XK) (e : Option Expr) (m : Ev → W (Option Int)) : Prop := PO X e (cloO X g B E m)
theorem po_imp {X : Cx} {e : Option Expr} {t u : TO} (h : PO X e t) (i : ∀ σ H Q, u σ H Q → t σ H Q) : PO X e u := ⟨fun pins s σ H Q I q => h.run pins s σ H Q I (i σ H Q q)⟩
theorem do_no : DO X g B E none oNo := po_imp po_none fun σ H Q h => by
  obtain ⟨env, S, P, Z, ok, hm, k, kx⟩ := h
  exact k none S H hm ok (Ex.rf _)
theorem do_so (h : DE X g B E a ma) : DO X g B E (some a) (oSo ma) := po_imp (po_some h) fun σ H Q h => by
  obtain ⟨env, S, P, Z, ok, hm, k, kx⟩ := h
  refine ⟨env, S, _, Z, ok, hm, fun d v S' H' p ok' ex r => ?_, kx⟩
  cases d with
  | int i =>
    unfold Rep at r
    exact ⟨i, r, k _ S' H' p ok' ex⟩
  | _ => exact p.elim
theorem de_sl (ha : DE X g B E a ma) (hl : DO X g B E lo ml) (hh : DO X g B E hi mh) : DE X g B E (.Subscript a (.Slice lo hi none p2) pos) (eSl ma ml mh) := by
  refine pe_imp (pe_slice (SlR.or sl_list sl_tupA) ha hl hh) fun σ H Q h => ?_
  obtain ⟨env, S, P, Z, ok, hm, k, kx⟩ := h
  refine ⟨env, S, _, Z, ok, hm, fun d v S1 H1 p1 ok1 ex1 r1 => ?_, kx⟩
  refine ⟨env, S1, _, Z, ok1, p1, fun l S2 H2 p2 ok2 ex2 => ?_, kx⟩
  refine ⟨env, S2, _, Z, ok2, p2, fun u S3 H3 p3 ok3 ex3 => ?_, kx⟩
  have r := (r1.mono ex2).mono ex3
  have ex := (ex1.tr ex2).tr ex3
  cases d with
  | lst xs =>
    unfold Rep at r
    obtain ⟨p, vs, rfl, h2, h3⟩ := r
    refine .inl ⟨p, vs, rfl, ok3.frm.le.sqL (SqL.of h2), fun q hq => ?_⟩
    have n := New.add (o := .lst (cutV vs l u)) ok3.frm.le hq (fun ps z => by cases z)
    exact k _ _ _ _ p3 (ok3.new n) (ex.tr n.ss) (by unfold Rep; exact ⟨q, _, rfl, upd_same, (reps_cut l u h3).mono n.ss⟩)
  | tup xs =>
    unfold Rep at r
    obtain ⟨p, vs, rfl, h2, h3⟩ := r
    refine .inr ⟨p, vs, rfl, ok3.frm.le.sqT h2, fun e => ?_, fun e q hq => ?_⟩
    · refine k _ _ S3 H3 p3 ok3 ex ?_
      have ec : cutD xs l u = xs := by
        unfold cutD
        rw [h3.len, e.1, e.2, ← h3.len]
        simp
      rw [ec]
      unfold Rep
      exact ⟨p, vs, rfl, h2, h3⟩
    · have n := New.add (o := .tup (cutV vs l u)) ok3.frm.le hq (fun ps z => by cases z)
      exact k _ _ _ _ p3 (ok3.new n) (ex.tr n.ss) (by unfold Rep; exact ⟨q, _, rfl, SqT.of upd_same, (reps_cut l u h3).mono n.ss⟩)
  | _ => exact p3.elim
theorem de_ix (ha : DE X g B E a ma) (hb : DE X g B E b mb) (hs : PlainIx b := by exact fun _ _ => rfl) : DE X g B E (.Subscript a b pos) (e2 dIx ma mb) := pe_imp (pe_ix (IxR.or ix_list ix_tup) ha hb hs) fun _ _ _ h => run2 dix_ok h
theorem ch_te {f h : D → D → W D} {r r' : R2} (hf : Op2 X g f r) (hh : Op2 X g h r') {σ : L2.St} {H : Hp} {Q : VK} (q : clo X g B E (eCh f h ma mb mc) σ H Q) : tChain r r' (clo X g B E ma) (clo X g B E mb) (clo X g B E mc) σ H Q := by
  obtain ⟨env, S, P, Z, ok, hm, k, kx⟩ := q
  refine ⟨env, S, _, Z, ok, hm, fun d v S1 H1 p1 ok1 ex1 r1 => ?_, kx⟩
  refine ⟨env, S1, _, Z, ok1, p1, fun d2 v2 S2 H2 p2 ok2 ex2 r2 => ?_, kx⟩
  refine hf d d2 v v2 B S2 H2 _ Z _ ok2.frm (r1.mono ex2) r2 p2 fun z w S3 H3 p3 n r3 => ?_
  cases z with
  | bl kk =>
    unfold Rep at r3
    refine ⟨kk, r3, ?_⟩
    have ok3 := ok2.new n
    cases kk with
    | false => exact k (.bl false) _ S3 H3 p3 ok3 ((ex1.tr ex2).tr n.ss) (rb _ _)
    | true =>
      replace p3 : mc env (fun w => h d2 w P Z) Z := p3
      rw [if_pos rfl]
      refine ⟨env, S3, _, Z, ok3, p3, fun d4 v4 S4 H4 p4 ok4 ex4 r4 => ?_, kx⟩
      exact hh d2 d4 v2 v4 B S4 H4 P Z _ ok4.frm ((r2.mono n.ss).mono ex4) r4 p4 fun d5 v5 S5 H5 p5 n5 r5 => k d5 v5 S5 H5 p5 (ok4.new n5) ((((ex1.tr ex2).tr n.ss).tr ex4).tr n5.ss) r5
  | _ => exact p3.elim
theorem de_ch {op op' : CmpOp} {f h : D → D → W D} {r r' : R2} (ho : OpR X (compareOp op) r) (ho' : OpR X (compareOp op') r') (hf : Op2 X g f r) (hh : Op2 X g h r') (ha : DE X g B E a ma) (hb : DE X g B E b mb) (hc : DE X g B E c mc)
    (hm : lastMarks [op, op'] [b, c] = false := by with_unfolding_all rfl) : DE X g B E (.Compare a [op, op'] [b, c] pos) (eCh f h ma mb mc) := pe_imp (pe_chain ho ho' ha hb hc hm) fun _ _ _ q => ch_te hf hh q
theorem dt_ch {op op' : CmpOp} {f h : D → D → W D} {r r' : R2} (ho : OpR X (compareOp op) r) (ho' : OpR X (compareOp op') r') (hf : Op2 X g f r) (hh : Op2 X g h r') (ha : DE X g B E a ma) (hb : DE X g B E b mb) (hc : DE X g B E c mc)
    (hm : lastMarks [op, op'] [b, c] = false := by with_unfolding_all rfl) : DT X g B E (.Compare a [op, op'] [b, c] pos) (tBo (eCh f h ma mb mc)) := dt_of (t := clo X g B E (eCh f h ma mb mc)) (pt_chain ho ho' ha hb hc hm) fun _ _ _ q => ch_te hf hh q
end

/-! ### built-in functions -/
@[simp] def bLen : List D → W D := fun as P _ => match as with
  | [.str x] => x.length ≤ 16777216 ∧ P (.int x.length)
  | [.lst l] => P (.int l.length)
  | [.tup l] => P (.int l.length)
  | [.scr l] => P (.int l.length)
  | _ => False
@[simp] def bTup : List D → W D := fun as P _ => match as with
  | [.lst l] => P (.tup l)
  | [.tup l] => P (.tup l)
  | _ => False
@[simp] def bLst : List D → W D := fun as P _ => match as with
  | [.lst l] => P (.lst l)
  | [.tup l] => P (.lst l)
  | _ => False
@[simp] def bSum : List D → W D := fun as P _ => match as with
  | [.lst l] => match intsOf l with
    | some is => P (.int is.sum)
    | none => False
  | _ => False
@[simp] def bAny : List D → W D := fun as P _ => match as with
  | [.lst l] => match bolsOf l with
    | some is => P (.bl (is.any id))
    | none => False
  | _ => False
@[simp] def bAll : List D → W D := fun as P _ => match as with
  | [.lst l] => match bolsOf l with
    | some is => P (.bl (is.all id))
    | none => False
  | _ => False
@[simp] def bMin2 : List D → W D := fun as P _ => match as with
  | [.int i, .int j] => P (.int (if j < i then j else i))
  | _ => False
@[simp] def bMax2 : List D → W D := fun as P _ => match as with
  | [.int i, .int j] => P (.int (if j > i then j else i))
  | _ => False
@[simp] def bAbs : List D → W D := fun as P _ => match as with
  | [.int i] => P (.int (if i < 0 then -i else i))
  | _ => False
@[simp] def bInt : List D → W D := fun as P _ => match as with
  | [.int i] => P (.int i)
  | [.bl k] => P (.int (if k then 1 else 0))
  | _ => False
section
variable {X : Cx} {g : Gd}
theorem rep1 {S : Hp} {d : D} {xs : List V} (r : Reps X.K X.mg g S [d] xs) : ∃ x, xs = [x] ∧ Rep X.K X.mg g S d x := by
  unfold Reps at r
  obtain ⟨w, ws, rfl, h2, h3⟩ := r
  unfold Reps at h3
  subst h3
  exact ⟨w, rfl, h2⟩
theorem rep2 {S : Hp} {d e : D} {xs : List V} (r : Reps X.K X.mg g S [d, e] xs) : ∃ x y, xs = [x, y] ∧ Rep X.K X.mg g S d x ∧ Rep X.K X.mg g S e y := by
  unfold Reps at r
  obtain ⟨w, ws, rfl, h2, h3⟩ := r
  obtain ⟨y, rfl, h4⟩ := rep1 h3
  exact ⟨w, y, rfl, h2, h4⟩
theorem blen_ok : OpA X g bLen (fun xs H Q => ∃ x n, xs = [x] ∧ LenV X.K x H n ∧ Q (.int n) H) := fun as xs B S H P Z Q f r h k => by
  have sl := sizeLine_eq
  unfold bLen at h
  split at h
  · obtain ⟨x, rfl, rx⟩ := rep1 r
    unfold Rep at rx
    subst rx
    exact ⟨_, _, rfl, ⟨by omega, rfl⟩, k _ _ S H h.2 (New.rf f.le) (ri _ S)⟩
  · obtain ⟨x, rfl, rx⟩ := rep1 r
    unfold Rep at rx
    obtain ⟨p, vs, rfl, h2, h3⟩ := rx
    refine ⟨_, vs.length, rfl, .inl ⟨vs, f.le.sqL (SqL.of h2), rfl⟩, ?_⟩
    rw [← h3.len]
    exact k _ _ S H h (New.rf f.le) (ri _ S)
  · obtain ⟨x, rfl, rx⟩ := rep1 r
    unfold Rep at rx
    obtain ⟨p, vs, rfl, h2, h3⟩ := rx
    refine ⟨_, vs.length, rfl, .inr ⟨vs, f.le.sqT h2, rfl⟩, ?_⟩
    rw [← h3.len]
    exact k _ _ S H h (New.rf f.le) (ri _ S)
  · obtain ⟨x, rfl, rx⟩ := rep1 r
    rename_i l
    unfold Rep at rx
    obtain ⟨p, rfl, h2⟩ := rx
    refine ⟨_, (l.map V.int).length, rfl, .inl ⟨_, f.le.sqL h2, rfl⟩, ?_⟩
    rw [List.length_map]
    exact k _ _ S H h (New.rf f.le) (ri _ S)
  · exact h.elim
theorem btup_ok : OpA X g bTup (fun xs H Q => ∃ p ys, xs = [.ref p] ∧ ((SqL X.K H p ys ∧ ∀ l, H l = none → Q (.ref l) (upd H l (.tup ys))) ∨ (SqT X.K H p ys ∧ Q (.ref p) H))) := fun as xs B S H P Z Q f r h k => by
  unfold bTup at h
  split at h
  · obtain ⟨x, rfl, rx⟩ := rep1 r
    unfold Rep at rx
    obtain ⟨p, vs, rfl, h2, h3⟩ := rx
    refine ⟨p, vs, rfl, .inl ⟨f.le.sqL (SqL.of h2), fun q hq => ?_⟩⟩
    have n := New.add (o := .tup vs) f.le hq (fun ps z => by cases z)
    exact k _ _ _ _ h n (by unfold Rep; exact ⟨q, _, rfl, SqT.of upd_same, h3.mono n.ss⟩)
  · obtain ⟨x, rfl, rx⟩ := rep1 r
    unfold Rep at rx
    obtain ⟨p, vs, rfl, h2, h3⟩ := rx
    exact ⟨p, vs, rfl, .inr ⟨f.le.sqT h2, k _ _ S H h (New.rf f.le) (by unfold Rep; exact ⟨p, vs, rfl, h2, h3⟩)⟩⟩
  · exact h.elim
theorem blst_ok : OpA X g bLst (fun xs H Q => ∃ p ys, xs = [.ref p] ∧ (SqL X.K H p ys ∨ SqT X.K H p ys) ∧ ∀ l, H l = none → Q (.ref l) (upd H l (.lst ys))) := fun as xs B S H P Z Q f r h k => by
  unfold bLst at h
  split at h
  · obtain ⟨x, rfl, rx⟩ := rep1 r
    unfold Rep at rx
    obtain ⟨p, vs, rfl, h2, h3⟩ := rx
    refine ⟨p, vs, rfl, .inl (f.le.sqL (SqL.of h2)), fun q hq => ?_⟩
    have n := New.add (o := .lst vs) f.le hq (fun ps z => by cases z)
    exact k _ _ _ _ h n (by unfold Rep; exact ⟨q, _, rfl, upd_same, h3.mono n.ss⟩)
  · obtain ⟨x, rfl, rx⟩ := rep1 r
    unfold Rep at rx
    obtain ⟨p, vs, rfl, h2, h3⟩ := rx
    refine ⟨p, vs, rfl, .inr (f.le.sqT h2), fun q hq => ?_⟩
    have n := New.add (o := .lst vs) f.le hq (fun ps z => by cases z)
    exact k _ _ _ _ h n (by unfold Rep; exact ⟨q, _, rfl, upd_same, h3.mono n.ss⟩)
  · exact h.elim
theorem bsum_ok : OpA X g bSum (rSum X.K) := fun as xs B S H P Z Q f r h k => by
  unfold bSum at h
  split at h
  · split at h
    · rename_i is e
      obtain ⟨x, rfl, rx⟩ := rep1 r
      unfold Rep at rx
      obtain ⟨p, vs, rfl, h2, h3⟩ := rx
      have ev := ints_of h3 e
      subst ev
      exact ⟨p, is, rfl, f.le.sqL (SqL.of h2), k _ _ S H h (New.rf f.le) (ri _ S)⟩
    · exact h.elim
  · exact h.elim
theorem bany_ok : OpA X g bAny (rAny X.K) := fun as xs B S H P Z Q f r h k => by
  unfold bAny at h
  split at h
  · split at h
    · rename_i is e
      obtain ⟨x, rfl, rx⟩ := rep1 r
      unfold Rep at rx
      obtain ⟨p, vs, rfl, h2, h3⟩ := rx
      have ev := bols_of h3 e
      subst ev
      exact ⟨p, is, rfl, f.le.sqL (SqL.of h2), k _ _ S H h (New.rf f.le) (rb _ S)⟩
    · exact h.elim
  · exact h.elim
theorem ball_ok : OpA X g bAll (rAll X.K) := fun as xs B S H P Z Q f r h k => by
  unfold bAll at h
  split at h
  · split at h
    · rename_i is e
      obtain ⟨x, rfl, rx⟩ := rep1 r
      unfold Rep at rx
      obtain ⟨p, vs, rfl, h2, h3⟩ := rx
      have ev := bols_of h3 e
      subst ev
      exact ⟨p, is, rfl, f.le.sqL (SqL.of h2), k _ _ S H h (New.rf f.le) (rb _ S)⟩
    · exact h.elim
  · exact h.elim
theorem bmin2_ok : OpA X g bMin2 (fun xs H Q => ∃ i j, xs = [.int i, .int j] ∧ Q (.int (if j < i then j else i)) H) := fun as xs B S H P Z Q f r h k => by
  unfold bMin2 at h
  split at h
  · obtain ⟨x, y, rfl, rx, ry⟩ := rep2 r
    unfold Rep at rx ry
    subst rx ry
    exact ⟨_, _, rfl, k _ _ S H h (New.rf f.le) (ri _ S)⟩
  · exact h.elim
theorem bmax2_ok : OpA X g bMax2 (fun xs H Q => ∃ i j, xs = [.int i, .int j] ∧ Q (.int (if j > i then j else i)) H) := fun as xs B S H P Z Q f r h k => by
  unfold bMax2 at h
  split at h
  · obtain ⟨x, y, rfl, rx, ry⟩ := rep2 r
    unfold Rep at rx ry
    subst rx ry
    exact ⟨_, _, rfl, k _ _ S H h (New.rf f.le) (ri _ S)⟩
  · exact h.elim
theorem babs_ok : OpA X g bAbs (fun xs H Q => ∃ i, xs = [.int i] ∧ Q (.int (if i < 0 then -i else i)) H) := fun as xs B S H P Z Q f r h k => by
  unfold bAbs at h
  split at h
  · obtain ⟨x, rfl, rx⟩ := rep1 r
    unfold Rep at rx
    subst rx
    exact ⟨_, rfl, k _ _ S H h (New.rf f.le) (ri _ S)⟩
  · exact h.elim
theorem bint_ok : OpA X g bInt (fun xs H Q => (∃ i, xs = [.int i] ∧ Q (.int i) H) ∨ ∃ k, xs = [.bl k] ∧ Q (.int (if k then 1 else 0)) H) := fun as xs B S H P Z Q f r h k => by
  unfold bInt at h
  split at h
  · obtain ⟨x, rfl, rx⟩ := rep1 r
    unfold Rep at rx
    subst rx
    exact .inl ⟨_, rfl, k _ _ S H h (New.rf f.le) (ri _ S)⟩
  · obtain ⟨x, rfl, rx⟩ := rep1 r
    unfold Rep at rx
    subst rx
    exact .inr ⟨_, rfl, k _ _ S H h (New.rf f.le) (ri _ S)⟩
  · exact h.elim
end
end DL

set_option Elab.async false
set_option linter.all false
set_option maxRecDepth 100000
set_option maxHeartbeats 4000000
/-! DQ: own exceptions whose __init__ says super().__init__(text); self.f = part. -/
namespace DL
open PySem PySem.Spec PyProof.Rows L2

/-- the written part of such a class: C its object, fI its __init__, y the parameter, fn the field -/
structure SupC (P : Program) (K : PySem.W.Frag) (mg : Str → Option Value) (C fI : Addr) (y fn : Str) : Prop where
  cls : ∃ nm q N bs bm sn sub ab col dd k0 k1 k2 k3 k5, K.lookup C = some (excClassObj nm q C N bs bm true sn sub ab col dd k0 k1 k2 k3 k5 "ValueError.__new__") ∧ PySem.HandSPX.refsVE bm = true
  ini : PySem.W.findIn K (.ref C) "__init__" = some (some (.ref fI))
  typ : PySem.W.typeIn K (.ref fI) = some (.type "function")
  sa : PySem.W.findIn K (.ref C) "__setattr__" = some (some (.builtin "object.__setattr__"))
  exC : PySem.W.subIn K (.ref C) (.type "BaseException") = some true
  veC : PySem.W.subIn K (.ref C) (.type "ValueError") = some true
  slf : PySem.W.subIn K (.ref C) (.ref C) = some true
  tyC : PySem.W.typeIn K (.ref C) = some (.type "type")
  kC : PySem.W.keepIn K (.ref C) = true
  no : PySem.W.findIn K (.ref C) fn = some none
  opq : PySem.W.nsIn K PySem.cStatics "thirdparty.any" = some none
  sup : PySem.W.ks_superIn K C C "__init__" = some (some (.builtin "ValueError.__init__"))
  msu : mg "super" = none
  top : (P.main.scope.names.lookup ("super" : Str)).isSome = false
  fnc : ∃ (name qual m : Str) (params : Arguments) (q1 q2 p0 p1 p2 p3 p4 p5 p6 p7 p8 p9 : Pos) (j : Nat) (scope : Scope) (dV kV doc pm : Value) (an : Option Addr) (cda cc : Addr) (ct oc cl ccl : Value) (od cld cdd : Option Addr) (osl csl ccs : Array (Option Value)) (vs : Array Value) (file : Str) (tf : Tok),
    K.lookup fI = some ⟨oc, od, .func (PySem.W.ksFn name qual params [.Expr (.Call (.Attribute (.Call (.Name "super" p0) [] [] p1) "__init__" p2) [.Constant (.str m) j p3] [] p4) p5,
      .Assign [.Attribute (.Name "self" p6) fn p7] (.Name y p8) p9] scope dV kV doc pm an (.ref cda) ct cc), osl⟩ ∧
    params = { posonlyargs := [], args := [⟨"self", none, q1⟩, ⟨y, none, q2⟩], vararg := none, kwonlyargs := [], kw_defaults := [], kwarg := none, defaults := [] } ∧
    PySem.W.codeIn K (.ref cda) qual = true ∧ K.lookup cda = some ⟨ccl, cdd, .fields vs, ccs⟩ ∧ vs[2]? = some (.str file tf) ∧ ((P.main.file : Str) == file) = true ∧ K.lookup cc = some ⟨cl, cld, .cell (some (.ref C)), csl⟩ ∧
    scope.kind = .function ∧ scope.isCoroutine = false ∧ scope.isGenerator = false ∧ (∀ x ∈ scope.names, x.2 ≠ .cell) ∧ scope.names.lookup ("self" : Str) = some .local ∧ scope.names.lookup y = some .local ∧ scope.names.lookup ("super" : Str) = some .globalImplicit ∧
    scope.names.lookup ("__class__" : Str) = some .free ∧
    (∀ a b : Value, bindArgs (PySem.W.ksFn name qual params [.Expr (.Call (.Attribute (.Call (.Name "super" p0) [] [] p1) "__init__" p2) [.Constant (.str m) j p3] [] p4) p5,
      .Assign [.Attribute (.Name "self" p6) fn p7] (.Name y p8) p9] scope dV kV doc pm an (.ref cda) ct cc) ⟨[a, b], []⟩ = pure [(("self" : Str), a), (y, b)]) ∧
    (∀ env : Env, ∃ pl : Sem Bool, eval (.Call (.Attribute (.Call (.Name "super" p0) [] [] p1) "__init__" p2) [.Constant (.str m) j p3] [] p4) env = (do
      let ov ← attributeBase (.Call (.Name "super" p0) [] [] p1) "__init__" env (eval (.Call (.Name "super" p0) [] [] p1) env)
      standAt p2.atName
      let (f, first) ← holding [ov] (getMethod ov "__init__" pl)
      callWith p4 f first (backTo p4 (starEach [.Constant (.str m) j p3] env)) []))
  ny : (y == ("self" : Str)) = false ∧ (y == ("__debug__" : Str)) = false ∧ (fn == ("__class__" : Str)) = false

section
open PySem.W PySem.Calls
variable {P : Program} {w : World} {K : Frag} {mg mb : Str → Option Value} {C fI e t0 : Addr} {y fn : Str} {A : Around} {R : Result → Shared → Prop} {E : Value → Shared → Prop} {u : Value}
/-- the bound built-in __init__, called -/
theorem mw_call {hp : Heap} {g : Array GenState} {d : Drawn} {t : Nat} {os : OsState} {mw : Addr} {vs : List Value} {Q : Value → Shared → Prop} (X : K.In hp) (T : SupC P K mg C fI y fn) (he : hp.get? e = some (HandSPX.excO C t0)) (hm : hp.get? mw = some (kxs_mw "ValueError.__init__" e)) (hl : vs.length ≤ sizeLine)
    (hq : ∀ h2 t2, (∀ b o, b ≠ e → hp.get? b = some o → h2.get? b = some o) → h2.get? e = some (HandSPX.excO C t2) → Q .none ⟨h2, g, d, t, os⟩) : wpAny (model P w) A (call (.ref mw) vs) Q E ⟨hp, g, d, t, os⟩ := by
  obtain ⟨nm, q, N, bs, bm, sn, sub, ab, col, dd, k0, k1, k2, k3, k5, lC, hbm⟩ := T.cls
  have FB := F.excBase_ValueError
  refine wpAny_call (codeAny_of_tree ?_)
  show wpAny _ A.in1 (callAny (.ref mw) { pos := vs }) _ _ _
  simp only [callAny]
  refine wpAny_bind (wpAny_load hm ?_)
  simp only [kxs_mw]
  rw [if_pos (by decide)]
  refine wpAny_bind (check_bound_init FB.toExcCallFacts (X _ _ lC) he rfl ?_)
  refine wpAny_bind (wpAny_pure (wpAny_pure ⟨plainId_quiet FB.init.plain _, ?_⟩))
  refine codeAny_builtin FB.initEntry ?_
  exact exc_init_tree (t0 := t0) (dv := none) (c2 := .none) (c3 := .none) (b4 := .bool false) he hl fun h2 k e2 _ => hq h2 _ k e2
/-- the body of __init__ -/
theorem sup_run {hp : Heap} {g : Array GenState} {d : Drawn} {t : Nat} {os : OsState} (X : K.In hp) (hlim : hp.NoLimit) (hgl : hp.Ns mainGlobals mg) (hbl : hp.Ns builtinsNs mb) (hbb : ∀ x : Str, x ≠ "__name__" → mb x = bootBuiltins x) (hroom : A.depth < recursionLimit)
    (T : SupC P K mg C fI y fn) (he : hp.get? e = some (HandSPX.excO C t0)) (neK : ∀ b o, K.lookup b = some o → b ≠ e)
    (hq : ∀ h2 tk dx t2, (∀ b o, b ≠ e → hp.get? b = some o → h2.get? b = some o) → e < dx → h2.get? e = some ({ cls := .ref C, dict := some dx, data := .fields #[.ref t2, .none, .none, .none, .bool false, .none] } : Obj) →
      h2.Ns1 dx (fun z => if z = fn then some u else none) → R (.ok (.ret .none)) ⟨h2, g, d, tk, os⟩) : codeAny (model P w) A (.call (.ref fI) ⟨[.ref e, u], []⟩) R ⟨hp, g, d, t, os⟩ := by
  obtain ⟨name, qual, m, params, q1, q2, p0, p1, p2, p3, p4, p5, p6, p7, p8, p9, j, scope, dV, kV, doc, pm, an, cda, cc, ct, oc, cl, ccl, od, cld, cdd, osl, csl, ccs, vs, file, tf, lf, hpar, hcd, lcd, hvs, hfile, lcc, hk, hco, hgen, hcell, hs, hy, hsu, hcl, hbd, hev⟩ := T.fnc
  obtain ⟨nm, q, N, bs, bm, sn, sub, ab, col, dd, k0, k1, k2, k3, k5, lC, hbm⟩ := T.cls
  obtain ⟨ny1, ny2, nf⟩ := T.ny
  have nys : y ≠ ("self" : Str) := by simpa using ny1
  subst hpar
  have hcC : clsIn K C = some { name := nm, bases := bs, mro := .ref C :: bm, ns := N, qualname := q, hasDict := true, slotNames := sn, subclasses := sub, abstract := ab, collection := col, hasDel := false } := by unfold clsIn; rw [lC] <;> rfl
  refine ks_codeAny_call_defAt (binds := [("self", .ref e), (y, u)]) hroom (X _ _ lf) rfl hlim (codeRec_of X hcd) rfl (BindsTo.of_eq (hbd _ _)) hcell (fun b hb => ?_) (fun h1 hns kp => ?_) hco hgen hk
  · rcases List.mem_cons.mp hb with rfl | hb
    · exact hs
    · rw [List.mem_singleton.mp hb]
      exact hy
  have nb : (("self" : Str) == y) = false := beq_eq_false_iff_ne.mpr fun z => nys z.symm
  obtain ⟨mL, hmL⟩ : ∃ mL : Str → Option Value, mL = fun x => List.lookup x (List.reverse [(("self" : Str), Value.ref e), (y, u)]) := ⟨_, rfl⟩
  have hns' : h1.Ns hp.objs.size mL := by rw [hmL]; exact hns
  have m1 : mL ("self" : Str) = some (.ref e) := by
    rw [hmL]
    show List.lookup _ [(y, u), (("self" : Str), Value.ref e)] = _
    simp only [List.lookup, nb, beq_self_eq_true]
  have m2 : mL y = some u := by
    rw [hmL]
    show List.lookup _ [(y, u), (("self" : Str), Value.ref e)] = _
    simp only [List.lookup, beq_self_eq_true]
  have X1 := X.keeps kp
  have he1 := kp _ _ he
  have hfr := Heap.lt_size he
  obtain ⟨pl, hpl⟩ := hev (callEnv (ksFn name qual { posonlyargs := [], args := [⟨"self", none, q1⟩, ⟨y, none, q2⟩], vararg := none, kwonlyargs := [], kw_defaults := [], kwarg := none, defaults := [] } _ scope dV kV doc pm an (.ref cda) ct cc) hp.objs.size fI)
  refine ks_wpAt_execs_cons (ks_wpAt_Expr_any (ks_wpAt_MethodCall (pl := pl) ?_ hpl) (hi := by show (scope.kind == .module && _) = false; rw [hk]; rfl))
  refine ks_wpAt_super_base hsu hcl rfl rfl (X1 _ _ lf) rfl rfl rfl (X1 _ _ lcd) rfl hvs hfile T.top ?_
  refine ks_loadName_global hk hsu (loadGlobal_builtin (hgl.keeps kp) T.msu (hbl.keeps kp) ((hbb _ (by decide)).trans (by first | boot_by_name | rfl | kernel_rfl)) ⟨rfl, ?_⟩)
  refine wpAny_loadName_free hk hcl rfl ⟨_, X1 _ _ lcc, rfl⟩ ?_
  refine wpAny_loadName_local hk hs hns' m1 ?_
  refine ks_wpAny_isType_cls (X1 _ _ lC) rfl ⟨rfl, ?_⟩
  refine ks_wpAny_call_super (X1 _ _ lC) rfl he1 rfl (fun c z => by cases z) (looks_subIn X1 T.slf) (fun h2 so k2 => ?_)
  have X2 := X1.keeps k2
  have he2 := k2 _ _ he1
  have I2 : InstAt h2 e (HandSPX.excO C t0) C none := ⟨he2, rfl, rfl, trivial⟩
  have hsp := T.sup
  unfold ks_superIn at hsp
  rw [hcC] at hsp
  refine kxs_getMethod kxs_ValueError so (looks_opaque X2 T.opq) (l₀ := .ref C :: bm) ((looks_clsIn X2 hcC).andThen .now) rfl X2 hsp (I2.type.andThen (looks_subIn X2 T.veC)) (ks_ne X2 I2 hcC) rfl ?_
  have k3 : ∀ b o, h2.get? b = some o → (h2.push (kxs_mw "ValueError.__init__" e)).get? b = some o := fun b o z => Heap.get?_push_of_some _ z
  have hmw : (h2.push (kxs_mw "ValueError.__init__" e)).get? h2.objs.size = some (kxs_mw "ValueError.__init__" e) := Heap.get?_push_at rfl rfl
  refine kxs_callWith (i := "ValueError.__init__") (x := e) rfl ?_
  show wpAny _ _ (evalArgs _ true [(false, eval (.Constant (.str m) j p3) _)] []) _ _ _
  refine evalArgs_plain (spliced_cons (wpAny_Constant_str (spliced_nil ⟨hmw, ?_⟩)))
  refine mw_call (X2.keeps k3) T (k3 _ _ he2) hmw (by show 1 ≤ sizeLine; rw [sizeLine_eq]; omega) fun h4 t4 k4 he4 => ?_
  have kk : ∀ b o, b ≠ e → hp.get? b = some o → h4.get? b = some o := fun b o nb z => k4 b o nb (k3 b o (k2 b o (kp b o z)))
  have X4 : K.In h4 := fun b o z => kk b o (neK b o z) (X _ _ z)
  have hns4 : h4.Ns hp.objs.size mL := hns'.at fun o z => k4 _ o (Nat.ne_of_gt hfr) (k3 _ o (k2 _ o z))
  refine ks_wpAt_execs_cons (ks_wpAt_Assign_Attr (wpAt_of_wpAny (wpAny_Name (wpAny_loadName_local hk hy hns4 m2 (wpAny_Name (wpAny_loadName_local hk hs hns4 m1 ?_) rfl)) ny2)))
  refine set_plain X4 (ox := { cls := .ref C, dict := none, data := .fields #[.ref t4, .none, .none, .none, .bool false, .none] }) (od := none) ⟨he4, rfl, rfl, trivial⟩ T.sa ?_
  refine HandSPX.exc_osa X4 he4 hcC (show HandSPX.refsVE (.ref C :: bm) = true from hbm) rfl T.no fun h5 t5 dx k5 ge ne he5 hns5 => ?_
  refine wpAt_of_wpAny (wpAny_execs_nil ?_)
  refine hq h5 t5 dx t4 (fun b o nb z => k5 b o nb (kk b o nb z)) (Nat.lt_of_lt_of_le (Heap.lt_size he4) ge) he5 hns5
end
section
variable {X : Cx} {C fI : Addr} {x y fn : Str} {p pos : Pos} {e : Expr} {ta : TE} {k : Nat}
/-- C(e): a new exception, its dict with the one field -/
def tSup (C : Addr) (fn : Str) (ta : TE) : L2.St → Hp → XK → Prop := fun σ H Q => ta σ H fun v H1 => ∀ d, H1 d = none → Q (.ref C) (some d) (upd H1 d (.xd [(fn, v)]))
theorem pmk_sup (T : SupC X.prog X.K X.mg C fI y fn) (hr : Room (k + 1) X.A) (hg : Gl X x) (hm : X.mg x = some (.ref C)) (ha : PE X e ta)
    (hdb : (x == ("__debug__" : Str)) = false := by decide) (he : starEach [e] X.env = (false, eval e X.env) :: starEach [] X.env := by rfl) (hpl : (backTo pos (starEach [] X.env)).any (·.1) = false := by rfl) :
    PMk X (.Call (.Name x p) [e] [] pos) (tSup C fn ta) := fun pins s σ H Q I h => by
  obtain ⟨nm, q, N, bs, bm, sn, sub, ab, col, dd, k0, k1, k2, k3, k5, hC, hbm⟩ := T.cls
  obtain ⟨mb, hmb, hbb⟩ := I.ok.mod.blt
  have ha2 : PA X [e] (tCons ta tNil) := pa_cons ha pa_nil he
  refine wpAny_Call_Name_kw (ld_glob I hg hm ?_ hdb)
  refine PySem.W.callWith_K (h₀ := X.base) I.ok.mod.kin T.kC (thn (ha2.run pos pins s σ H (fun vs H1 => match vs with
    | [v] => ∀ d, H1 d = none → Q (.ref C) (some d) (upd H1 d (.xd [(fn, v)]))
    | _ => False) I h) fun us s1 hh => ?_) he hpl
  obtain ⟨vs, H1, I1, r1, hq⟩ := hh
  match vs, hq with
  | [v], hq =>
  refine ⟨I1.kIn, ?_⟩
  cases r1 with
  | cons ru rn =>
  rename_i u us2
  cases rn
  show wpAny _ _ (call (.ref C) [u]) _ _ _
  obtain ⟨hp, g, dr, tk, os⟩ := s1
  have hlt : hp.objs.size < hp.objs.size + 1 := Nat.lt_succ_self _
  have old : ∀ b o, hp.get? b = some o → ((hp.push (PySem.W.kdv_tup [u])).push (PySem.HandSPX.excO C hp.objs.size)).get? b = some o := fun b o z => Heap.get?_push_of_some _ (Heap.get?_push_of_some _ z)
  have hnew : ((hp.push (PySem.W.kdv_tup [u])).push (PySem.HandSPX.excO C hp.objs.size)).get? (hp.objs.size + 1) = some (PySem.HandSPX.excO C hp.objs.size) := by heap_get
  have bk := fun b o z => old b o (I1.bk b o z)
  have cl := PySem.HandSPX.call_own (prog := X.prog) (w := X.w) (A := X.A) (R := wants (MkP X pins σ Q) X.xe) (rest := [u]) F.excBase_ValueError (fun Y => PySem.HandSPX.refsVE_contains Y bm hbm) (I1.kIn _ _ hC) (PySem.W.looks_findIn I1.kIn T.ini) (fun self => PySem.W.bind_fn I1.kIn self T.typ) (by show 1 ≤ sizeLine; rw [sizeLine_eq]; omega) (g := g) (d := dr) (t := tk) (os := os)
  have nk : ∀ b o, X.base.get? b = some o → b ≠ hp.objs.size + 1 := fun b o z => Nat.ne_of_lt (Nat.lt_succ_of_lt (Heap.lt_size (I1.bk b o z)))
  refine wpAny_call (cl (sup_run (mb := mb) (I1.ok.mod.kin.keeps bk) (I1.ok.mod.nolimit.keeps bk) (I1.ok.mod.glob.keeps bk) (hmb.keeps bk) hbb (hr.make C [u] []).depth T hnew (fun b o z => nk b o (I1.ok.mod.kin b o z)) fun h2 t2 dx tt kp lt he2 hns => ?_))
  obtain ⟨G, g1, g2⟩ := restrict h2 fun b => decide (b ≠ hp.objs.size + 1)
  have gk : ∀ b, b ≠ hp.objs.size + 1 → G.get? b = h2.get? b := fun b hb => g1 b (decide_eq_true hb)
  have ge : G.get? (hp.objs.size + 1) = none := g2 _ (by simp)
  have dne : dx ≠ hp.objs.size + 1 := Nat.ne_of_gt lt
  have dge : hp.objs.size ≤ dx := by
    have z : hp.objs.size + 1 < dx := lt
    omega
  have kG : ∀ b o, hp.get? b = some o → G.get? b = some o := fun b o z => by
    have nb : b ≠ hp.objs.size + 1 := Nat.ne_of_lt (Nat.lt_succ_of_lt (Heap.lt_size z))
    rw [gk b nb]
    exact kp b o nb (old b o z)
  have hn1 : H1 dx = none := I1.hok.fresh dge
  have J := I1.laid (t' := t2) (a := dx) (o := .xd [(fn, v)]) kG dge ⟨_, hns.at fun o z => (gk dx dne).trans z, relO_put (fs := []) ru fun _ => True.intro⟩
  have na : upd H1 dx (.xd [(fn, v)]) (hp.objs.size + 1) = none := by
    rw [upd_ne (Ne.symm dne)]
    exact I1.hok.fresh (Nat.le_succ _)
  have kh : ∀ b o, G.get? b = some o → h2.get? b = some o := fun b o z => by
    by_cases hb : b = hp.objs.size + 1
    · rw [hb, ge] at z
      cases z
    · rw [← gk b hb]
      exact z
  exact ⟨rfl, hp.objs.size + 1, _, _, _, _, .ref C, some dx, rfl, J, kh, ge, he2, ⟨rfl, rfl⟩, rfl, rfl, na, rfl, I1.bare, raises_own T.exC T.tyC, hq dx hn1⟩
end
end DL

set_option Elab.async false
set_option linter.all false
set_option maxRecDepth 100000
set_option maxHeartbeats 2000000
/-! DG: defs and their calls, with the guards told. -/
namespace DL
open PySem PySem.Spec PyProof.Rows L2

/-- a def's promise at a call with no guard around -/
structure FnG (P : Program) (w : World) (K : PySem.W.Frag) (mg : Str → Option Value) (base : Heap) (k : Nat) (f : Addr) (fd : FuncData) (n : Nat) (ps : List Str) (sp : Sp) : Prop where
  np : ps.length = n
  len : ∀ vs H Q E, sp vs H Q E → vs.length = n
  run : ∀ (A : Around) (outer : List Env) (s : Shared) (H : Hp) (args : Args) (us : List Value) (vs : List V) (Q : VK) (E : XK), Room k A → A.guards = some [] → Env0 P w K mg base A outer s H → BindsTo s fd args (ps.zip us) → Vals vs us → sp vs H Q E →
    codeAny (model P w) A (.call (.ref f) args) (CR (L2.CX P w) outer P w H s Q E) s
section
variable {P : Program} {w : World} {K : PySem.W.Frag} {mg : Str → Option Value} {base : Heap}
theorem fnG_of {x : Str} {st : Stmt} {f : Addr} {fd : FuncData} {N ps : List Str} {k : Nat} {sp : Sp} (F : Fun K x x st f fd) (Sc : FnScope N ps (defScope st)) (hl : ∀ vs H Q E, sp vs H Q E → vs.length = ps.length)
    (hb : ∀ (cdv : Value) (A : Around) (outer : List Env) (s : Shared) (H : Hp) (vs : List V) (Q : VK) (E : XK), Room k (A.deeper (envOfC x (defScope st) s.heap.objs.size f cdv)) → A.guards = some [] → sp vs H Q E →
      ∃ t, PSs (cxOf (L2.CX P w) P w K mg base N x (defScope st) f cdv A outer s H E) (defBody st) t ∧ t { nx := fun _ H' => Q .non H', rt := Q } (L2.start N vs) H) : FnG P w K mg base (k + 1) f fd ps.length ps sp := by
  obtain ⟨oc, od, kV, doc, pm, an, cdv, ct, osl, e, lk, hc⟩ := F.ex
  subst e
  refine ⟨rfl, hl, fun A outer s H args us vs Q E hr hg e0 bd rv q => ?_⟩
  exact LamX.run_ofS (N := N) lk hc Sc hr e0 bd rv (hl _ _ _ _ q) fun hr2 => hb cdv A outer s H vs Q E hr2 hg q
theorem FnG.mono {j k n : Nat} {f : Addr} {fd : FuncData} {ps : List Str} {sp : Sp} (F : FnG P w K mg base j f fd n ps sp) (h : j ≤ k) : FnG P w K mg base k f fd n ps sp :=
  ⟨F.np, F.len, fun A outer s H args us vs Q E hr => F.run A outer s H args us vs Q E (hr.mono h)⟩
theorem FnG.imp {k n : Nat} {f : Addr} {fd : FuncData} {ps : List Str} {sp sp' : Sp} (F : FnG P w K mg base k f fd n ps sp) (h : ∀ vs H Q E, sp' vs H Q E → sp vs H Q E) : FnG P w K mg base k f fd n ps sp' :=
  ⟨F.np, fun vs H Q E q => F.len vs H Q E (h _ _ _ _ q), fun A outer s H args us vs Q E hr hg e0 bd rv q => F.run A outer s H args us vs Q E hr hg e0 bd rv (h _ _ _ _ q)⟩
end
/-- what a context of ours grants -/
structure CxK (T : List (Addr × Str)) (n : Nat) (X : Cx) (g : Gd) (E : XK) : Prop where
  room : Room n X.A
  tb : g.T = T
  gd : X.A.guards = some []
  tk : Takes X (fun c d _ H => E c d H)
  calm : X.calm = true
theorem CxK.mono {T : List (Addr × Str)} {n m : Nat} {X : Cx} {g : Gd} {E : XK} (c : CxK T n X g E) (h : m ≤ n) : CxK T m X g E := ⟨c.room.mono h, c.tb, c.gd, c.tk, c.calm⟩
theorem CxK.un {T : List (Addr × Str)} {n : Nat} {X : Cx} {g : Gd} {E : XK} (c : CxK T n X g E) : X.A.units + 1 < cLine := hu_of c.room
theorem takesF {X : Cx} {E : XK} (h : ∀ c d H, ¬ E c d H) : Takes X (fun c d _ H => E c d H) := fun _ _ x => by
  obtain ⟨_, _, _, _, _, _, cls, d, _, _, _, _, _, _, _, _, z⟩ := x
  exact (h _ _ _ z).elim
theorem CxK.blk {T : List (Addr × Str)} {n : Nat} {X : Cx} {g : Gd} {E : XK} (c : CxK T n X g E) (s : Shared) (H : Hp) (sc : Scope) (env : Env) (fp : List Addr) : CxK T n (X.blk s H sc env fp) g EF := ⟨c.room, c.tb, c.gd, takesF fun _ _ _ z => z, c.calm⟩
section
variable {X : Cx} {k n : Nat} {f : Addr} {fd : FuncData} {ps : List Str} {sp : Sp} {E : XK}
theorem run_g {T : List (Addr × Str)} {g : Gd} {pins : List (Addr × Obj)} {σ : L2.St} {H : Hp} {s : Shared} {Q : VK} {us zs : List Value} {kw : List (Str × Value)} {vs : List V} (F : FnG X.prog X.w X.K X.mg X.base k f fd n ps sp) (c : CxK T k X g E) (hb : BindsTo s fd ⟨us, kw⟩ (ps.zip zs)) (I : Inv X pins σ H s) (r : Vals vs zs) (h : sp vs H Q E) :
    wpAny (model X.prog X.w) X.A (call (.ref f) us kw) (EP X pins σ Q) X.xe s := by
  refine wpAny_call (codeAny_mono (F.run X.A X.stack s H ⟨us, kw⟩ zs vs Q E c.room c.gd I.env0 hb r h) fun res s2 hq => ?_)
  have px := passes_call c.tk (E := E) fun _ _ _ _ z => z
  cases res with
  | error e => exact px pins σ H s e s2 I hq
  | ok fl =>
    cases fl with
    | ret u => exact I.after hq
    | _ => exact False.elim hq
end
/-- what a def does, told of plain data -/
def spD (K : PySem.W.Frag) (mg : Str → Option Value) (T : List (Addr × Str)) (n : Nat) (F : List D → W D) : Sp := fun vs H Q E => vs.length = n ∧ ∃ g ds S P Z, g.T = T ∧ Frm g S H S H ∧ Reps K mg g S ds vs ∧ F ds P Z ∧
  (∀ d v S' H', P d → Frm g S H S' H' → Rep K mg g S' d v → Q v H') ∧ (∀ x cls dx S' H', Z x → Frm g S H S' H' → RepX K mg g S' cls dx x → E cls dx H')
structure FnD (P : Program) (w : World) (K : PySem.W.Frag) (mg : Str → Option Value) (base : Heap) (T : List (Addr × Str)) (k : Nat) (x : Str) (st : Stmt) (ps : List Str) (F : List D → W D) : Prop where
  ex : ∃ f fd, mg x = some (.ref f) ∧ Fun K x x st f fd ∧ Binds K fd ps [] ∧ FnG P w K mg base k f fd ps.length ps (spD K mg T ps.length F)
/-- a body as a computation upon arguments -/
@[simp] def fnW (nl np : Nat) (m : SM) : List D → W D := fun ds P Z => ds.length = np ∧ m (ds.map Slot.sh ++ List.replicate (nl - np) .un) { nx := fun _ => P .non, rt := P, er := Z }
section
variable {P : Program} {w : World} {K : PySem.W.Frag} {mg : Str → Option Value} {base : Heap} {T : List (Addr × Str)}
theorem ok_start {g : Gd} {S H : Hp} {ds : List D} {vs : List V} {N : List Str} (f : Frm g S H S H) (r : Reps K mg g S ds vs) : Ok K mg g (S, H) (ds.map Slot.sh ++ List.replicate (N.length - ds.length) .un) S (L2.start N vs) H where
  frm := f
  len := by
    unfold L2.start
    rw [List.length_append, List.length_append, List.length_map, List.length_map, List.length_replicate, List.length_replicate, r.len]
  slots := fun i s e => by
    have hl := r.len
    by_cases hi : i < ds.length
    · rw [List.getElem?_append_left (by simpa using hi), List.getElem?_map] at e
      have e0 : ds[i]? = some ds[i] := List.getElem?_eq_getElem hi
      rw [e0] at e
      have e' : Slot.sh ds[i] = s := by simpa using e
      subst e'
      obtain ⟨v, hv, rv⟩ := r.got e0
      refine ⟨v, ?_, rv⟩
      unfold L2.start
      rw [List.getElem?_append_left (by rw [List.length_map]; omega), List.getElem?_map, hv]
      rfl
    · rw [List.getElem?_append_right (by simpa using hi), List.getElem?_replicate] at e
      split at e
      · have e' := Option.some.inj e
        subst e'
        trivial
      · cases e
  apart := fun i j l m a e _ _ _ => by
    by_cases hi : i < ds.length
    · rw [List.getElem?_append_left (by simpa using hi), List.getElem?_map, List.getElem?_eq_getElem hi] at e
      have e' : Slot.sh ds[i] = .own l := by simpa using e
      cases e'
    · rw [List.getElem?_append_right (by simpa using hi), List.getElem?_replicate] at e
      split at e
      · have e' := Option.some.inj e
        cases e'
      · cases e
/-- the context of a def's body -/
theorem cxk_of {N : List Str} {x : Str} {sc : Scope} {f : Addr} {cdv : Value} {A : Around} {outer : List Env} {s : Shared} {H : Hp} {E : XK} {k : Nat} (hr : Room k (A.deeper (envOfC x sc s.heap.objs.size f cdv))) {g : Gd} (ht : g.T = T) (hg : A.guards = some []) :
    CxK T k (cxOf (L2.CX P w) P w K mg base N x sc f cdv A outer s H E) g E := ⟨hr, ht, hg, takes_of rfl rfl rfl rfl, rfl⟩
theorem fnD_of {x : Str} {st : Stmt} {f : Addr} {fd : FuncData} {N ps : List Str} {k : Nat} {m : SM} (F : Fun K x x st f fd) (Sc : FnScope N ps (defScope st)) (hm : mg x = some (.ref f)) (hb : Binds K fd ps [])
    (hbody : ∀ (cdv : Value) (A : Around) (outer : List Env) (s : Shared) (H : Hp) (E : XK) (g : Gd) (B : Hp × Hp), CxK T k (cxOf (L2.CX P w) P w K mg base N x (defScope st) f cdv A outer s H E) g E →
      DSs (cxOf (L2.CX P w) P w K mg base N x (defScope st) f cdv A outer s H E) g B E (defBody st) m) : FnD P w K mg base T (k + 1) x st ps (fnW N.length ps.length m) := by
  refine ⟨f, fd, hm, F, hb, fnG_of F Sc (fun vs H Q E h => h.1) fun cdv A outer s H vs Q E hr hg h => ?_⟩
  obtain ⟨hl, g, ds, S, P', Z, ht, fr, r, hf, kq, kx⟩ := h
  obtain ⟨hd, hf⟩ := hf
  refine ⟨_, hbody cdv A outer s H E g (S, H) (cxk_of hr ht hg), ?_⟩
  have o := ok_start (N := N) fr r
  rw [hd] at o
  refine ⟨_, S, _, o, hf, fun env S' σ H' q ok' ex => ?_, fun d v S' H' q f' r' => kq d v S' H' q f' r', fun _ _ _ _ z => z.elim, fun _ _ _ _ z => z.elim, fun x cls dx S' H' q f' r' => kx x cls dx S' H' q f' r'⟩
  exact kq .non .non S' H' q ok'.frm (by unfold Rep; rfl)
/-- a weaker promise, or an equal one -/
theorem FnD.imp {k : Nat} {x : Str} {st : Stmt} {ps : List Str} {F G : List D → W D} (h : FnD P w K mg base T k x st ps F) (i : ∀ ds P Z, G ds P Z → F ds P Z) : FnD P w K mg base T k x st ps G := by
  obtain ⟨f, fd, h1, h2, h3, h5⟩ := h.ex
  refine ⟨f, fd, h1, h2, h3, h5.imp fun vs H Q E h => ?_⟩
  obtain ⟨hl, g, ds, S, P', Z, ht, fr, r, hf, kq, kx⟩ := h
  exact ⟨hl, g, ds, S, P', Z, ht, fr, r, i _ _ _ hf, kq, kx⟩
theorem FnD.mono {j k : Nat} {x : Str} {st : Stmt} {ps : List Str} {F : List D → W D} (h : FnD P w K mg base T j x st ps F) (i : j ≤ k) : FnD P w K mg base T k x st ps F := by
  obtain ⟨f, fd, h1, h2, h3, h5⟩ := h.ex
  exact ⟨f, fd, h1, h2, h3, h5.mono i⟩
end
section
variable {X : Cx} {g : Gd} {B : Hp × Hp} {E : XK} {T : List (Addr × Str)} {k n : Nat} {x : Str} {st : Stmt} {ps : List Str} {F : List D → W D} {a : Expr} {es : List Expr} {kws : List Keyword} {p pos : Pos} {ml mk : Ev → W (List D)}
/-- the arguments stand, the def is entered -/
theorem call_sp {σ : L2.St} {H : Hp} {Q : VK} {env : Ev} {S : Hp} {P Z : D → Prop} {ds : List D} {vs : List V} (ht : g.T = T) (ok : Ok X.K X.mg g B env S σ H) (r : Reps X.K X.mg g S ds vs) (q : F ds P Z) (hl : ds.length = ps.length)
    (kq : ∀ d v S' H', P d → Ok X.K X.mg g B env S' σ H' → Ex S S' → Rep X.K X.mg g S' d v → Q v H') (kx : ∀ x cls dx S' H', Z x → Frm g B.1 B.2 S' H' → RepX X.K X.mg g S' cls dx x → E cls dx H') : spD X.K X.mg T ps.length F vs H Q E :=
  ⟨by rw [← r.len]; exact hl, g, ds, S, P, Z, ht, ok.frm.rf, r, q, fun d v S2 H2 q2 f2 r2 => kq d v S2 H2 q2 (ok.call f2) f2.ss r2, fun x cls dx S2 H2 q2 f2 r2 => kx x cls dx S2 H2 q2 (ok.frm.tr f2) r2⟩
@[simp] def eF (n : Nat) (F : List D → W D) (ml : Ev → W (List D)) : EM := fun env P Z => ml env (fun ds => ds.length = n ∧ F ds P Z) Z
/-- f(e, ..) -/
theorem de_call (f : FnD X.prog X.w X.K X.mg X.base T k x st ps F) (c : CxK T n X g E) (hk : k ≤ n) (hg : Gl X x) (ha : DAr X g B E (a :: es) ml) (hdb : (x == ("__debug__" : Str)) = false := by decide)
    (hst : noStar (a :: es) = true := by rfl) {np : Nat} (hnp : ps.length = np := by rfl) : DE X g B E (.Call (.Name x p) (a :: es) [] pos) (eF np F ml) := by
  subst hnp
  obtain ⟨fa, fd, h1, h2, h3, h5⟩ := f.ex
  refine ⟨fun pins s σ H Q I h => ?_⟩
  obtain ⟨env, S, P, Z, ok, hm, kq, kx⟩ := h
  refine wpAny_Call_Name_kw (ld_glob I hg h1 ?_ hdb)
  refine PySem.W.callWith_K (h₀ := X.base) I.ok.mod.kin h2.kp (thn (ha.run pos pins s σ H (fun vs H1 => spD X.K X.mg T ps.length F vs H1 Q E) I ⟨env, S, _, Z, ok, hm, fun ds vs S1 H1 q ok1 ex r => ?_, kx⟩) fun us s1 hh => ?_) (st_cons hst) (st_any hst)
  · exact call_sp c.tb ok1 r q.2 q.1 (fun d v S2 H2 q2 ok2 ex2 r2 => kq d v S2 H2 q2 ok2 (ex.tr ex2) r2) kx
  · obtain ⟨vs, H1, I1, r, q⟩ := hh
    have bd := h3 s1 us I1.kIn (by rw [List.append_nil, ← r.length]; exact q.1)
    rw [List.append_nil] at bd
    exact ⟨I1.kIn, run_g h5 (c.mono hk) bd I1 r q⟩
/-- f() -/
theorem de_call0 (f : FnD X.prog X.w X.K X.mg X.base T k x st [] F) (c : CxK T n X g E) (hk : k ≤ n) (hg : Gl X x) (hdb : (x == ("__debug__" : Str)) = false := by decide) : DE X g B E (.Call (.Name x p) [] [] pos) (eF 0 F aNil) := by
  obtain ⟨fa, fd, h1, h2, h3, h5⟩ := f.ex
  refine ⟨fun pins s σ H Q I h => ?_⟩
  obtain ⟨env, S, P, Z, ok, hm, kq, kx⟩ := h
  refine wpAny_Call_Name_kw (ld_glob I hg h1 ?_ hdb)
  have bd := h3 s [] I.kIn rfl
  exact PySem.W.callWith_K0 I.kIn h2.kp (run_g (us := []) h5 (c.mono hk) bd I .nil (call_sp c.tb ok Reps.nil hm.2 rfl kq kx))
/-- keywords' values -/
def DK (X : Cx) (g : Gd) (B : Hp × Hp) (E : XK) (kws : List Keyword) (m : Ev → W (List D)) : Prop := PK X kws (cloA X g B E m)
theorem pk_imp {X : Cx} {kws : List Keyword} {t u : TA} (h : PK X kws t) (i : ∀ σ H Q, u σ H Q → t σ H Q) : PK X kws u := ⟨fun p pins s σ H Q I q => h.run p pins s σ H Q I (i σ H Q q)⟩
theorem dk_nil : DK X g B E [] aNil := pk_imp pk_nil fun σ H Q h => by
  obtain ⟨env, S, P, Z, ok, hm, k, kx⟩ := h
  exact k [] [] S H hm ok (Ex.rf _) Reps.nil
theorem dk_cons {nm : Option Str} {kp : Pos} {ma : EM} (ha : DE X g B E a ma) (hr : DK X g B E kws mk) : DK X g B E (⟨nm, a, kp⟩ :: kws) (aCons ma mk) := by
  refine pk_imp (pk_cons ha hr) fun σ H Q h => ?_
  obtain ⟨env, S, P, Z, ok, hm, k, kx⟩ := h
  refine ⟨env, S, _, Z, ok, hm, fun d v S' H' p ok' ex r => ?_, kx⟩
  exact ⟨env, S', _, Z, ok', p, fun ds vs S2 H2 p2 ok2 ex2 r2 => k _ _ S2 H2 p2 ok2 (ex.tr ex2) (Reps.cons (r.mono ex2) r2), kx⟩
theorem vals_at : ∀ {vs : List V} {us : List Value}, Vals vs us → ∀ j, j < vs.length → L2.RelV (vs.getD j .non) (us.getD j .none)
  | [], _, _, j, h => absurd h (by simp)
  | v :: vs, _, .cons r rs, 0, _ => r
  | v :: vs, _, .cons r rs, j + 1, h => vals_at rs j (by simpa using h)
/-- f(k = e, ..): pm puts the values in the parameters' order -/
theorem de_callK0 {ks : List Str} {js : List Nat} (f : FnD X.prog X.w X.K X.mg X.base T k x st ps F) (c : CxK T n X g E) (hk : k ≤ n) (hg : Gl X x) (ha : DK X g B E kws mk)
    (hb : ∀ (kV doc pm : Value) (an : Option Addr) (cdv ct : Value) (ws : List Value), ws.length = js.length → bindArgs (PySem.W.fnOf x x (defArgs st) (defBody st) (defScope st) .none kV doc pm an cdv ct) ⟨[], ks.zip ws⟩ = pure (ps.zip (js.map fun j => ws.getD j .none)))
    (hjl : js.length = ps.length := by rfl) (hjs : ∀ j ∈ js, j < js.length := by decide)
    (hall : (backToKw pos (keywordEach kws X.env)).all (·.1.isSome) = true := by rfl) (hks : (backToKw pos (keywordEach kws X.env)).filterMap (·.1) = ks := by rfl) (hdb : (x == ("__debug__" : Str)) = false := by decide)
    (hpl : ((backTo pos (starEach [] X.env)).any (·.1) || (backToKw pos (keywordEach kws X.env)).any (·.1.isNone)) = false := by rfl) :
    {np : Nat} → (hnp : ps.length = np := by rfl) → DE X g B E (.Call (.Name x p) [] kws pos) (eF np (fun ds => F (js.map fun j => ds.getD j .non)) mk) := by
  intro np hnp
  subst hnp
  obtain ⟨fa, fd, h1, h2, h3, h5⟩ := f.ex
  refine ⟨fun pins s σ H Q I h => ?_⟩
  obtain ⟨env, S, P, Z, ok, hm, kq, kx⟩ := h
  refine wpAny_Call_Name_kw (ld_glob I hg h1 ?_ hdb)
  refine PySem.W.callWith_KW0 (h₀ := X.base) I.ok.mod.kin h2.kp hall (thn (ha.run pos pins s σ H (fun vs H1 => vs.length = js.length ∧ spD X.K X.mg T ps.length F (js.map fun j => vs.getD j .non) H1 Q E) I ⟨env, S, _, Z, ok, hm, fun ds vs S1 H1 q ok1 ex r => ?_, kx⟩) fun us s1 hh => ?_) hpl
  · have hl : ds.length = js.length := by rw [q.1, hjl]
    refine ⟨by rw [← r.len]; exact hl, call_sp c.tb ok1 ?_ q.2 (by rw [List.length_map]; exact hjl) (fun d v S2 H2 q2 ok2 ex2 r2 => kq d v S2 H2 q2 ok2 (ex.tr ex2) r2) kx⟩
    have hz : ∀ l : List Nat, (∀ j ∈ l, j < js.length) → Reps X.K X.mg g S1 (l.map fun j => ds.getD j .non) (l.map fun j => vs.getD j .non) := by
      intro l
      induction l with
      | nil => exact fun _ => Reps.nil
      | cons j l ih =>
        intro hj
        have hd : ds[j]? = some (ds.getD j .non) := by
          rw [List.getD_eq_getElem?_getD]
          cases e : ds[j]? with
          | none =>
            have := List.getElem?_eq_none_iff.mp e
            have := hj j List.mem_cons_self
            omega
          | some d => rfl
        obtain ⟨v, hv, rv⟩ := r.got hd
        have hv2 : vs.getD j .non = v := by rw [List.getD_eq_getElem?_getD, hv]; rfl
        rw [List.map_cons, List.map_cons, hv2]
        exact Reps.cons rv (ih fun i hi => hj i (List.mem_cons_of_mem _ hi))
    exact hz js hjs
  · obtain ⟨vs, H1, I1, r, hl, q⟩ := hh
    rw [hks]
    refine ⟨I1.kIn, ?_⟩
    obtain ⟨oc, od, kV, doc, pm, an, cdv, ct, osl, e, lk, hc⟩ := h2.ex
    subst e
    have hul : us.length = js.length := by rw [← r.length]; exact hl
    have rz : ∀ l : List Nat, (∀ j ∈ l, j < js.length) → Vals (l.map fun j => vs.getD j .non) (l.map fun j => us.getD j .none) := by
      intro l
      induction l with
      | nil => exact fun _ => .nil
      | cons j l ih =>
        intro hj
        refine .cons ?_ (ih fun i hi => hj i (List.mem_cons_of_mem _ hi))
        exact vals_at r j (by rw [hl]; exact hj j List.mem_cons_self)
    exact run_g h5 (c.mono hk) (BindsTo.of_eq (hb kV doc pm an cdv ct us hul)) I1 (rz js hjs) q
/-- x(e, ..) where the i-th slot holds a def of the module -/
@[simp] def eL (i : Nat) (Fm : Str → Option (Nat × (List D → W D))) (ml : Ev → W (List D)) : EM := fun env P Z => match env[i]? with
  | some (.sh (.fn y)) => match Fm y with
    | some nF => ml env (fun ds => ds.length = nF.1 ∧ nF.2 ds P Z) Z
    | none => False
  | _ => False
theorem de_callL {i : Nat} {Fm : Str → Option (Nat × (List D → W D))} (f : ∀ y nF, Fm y = some nF → ∃ k st ps, k ≤ n ∧ ps.length = nF.1 ∧ FnD X.prog X.w X.K X.mg X.base T k y st ps nF.2) (c : CxK T n X g E) (ha : DAr X g B E (a :: es) ml)
    (hN : X.N[i]? = some x := by rfl) (hv : Vis X.env.scope x := by first | exact Or.inl rfl | exact Or.inr (Or.inl rfl) | exact Or.inr (Or.inr rfl)) (hdb : (x == ("__debug__" : Str)) = false := by decide)
    (hcd : (x == ("__classdict__" : Str)) = false := by decide) (hst : noStar (a :: es) = true := by rfl) : DE X g B E (.Call (.Name x p) (a :: es) [] pos) (eL i Fm ml) := by
  refine ⟨fun pins s σ H Q I h => ?_⟩
  obtain ⟨env, S, P, Z, ok, hm, kq, kx⟩ := h
  unfold eL at hm
  split at hm
  · rename_i y es'
    split at hm
    · rename_i nF ef
      obtain ⟨k, st, ps, hk, hp, F⟩ := f y nF ef
      obtain ⟨fa, fd, h1, h2, h3, h5⟩ := F.ex
      obtain ⟨v, hs, rv⟩ := ok.slots i _ es'
      unfold Rep at rv
      obtain ⟨fb, rfl, hm2⟩ := rv
      rw [h1] at hm2
      cases hm2
      refine wpAny_Call_Name_kw (thn ((pe_var (pos := p) hN hv hdb hcd).run pins s σ H (fun v H1 => v = .ref fa ∧ H1 = H) I ⟨.ref fa, hs, rfl, rfl⟩) fun u s0 ⟨v, H0, I0, r0, q0⟩ => ?_)
      obtain ⟨rfl, rfl⟩ := q0
      cases r0
      refine PySem.W.callWith_K (h₀ := X.base) I0.ok.mod.kin h2.kp (thn (ha.run pos pins s0 σ _ (fun vs H1 => spD X.K X.mg T ps.length nF.2 vs H1 Q E) I0 ⟨env, S, _, Z, ok, hm, fun ds vs S1 H1 q ok1 ex r => ?_, kx⟩) fun us s1 hh => ?_) (st_cons hst) (st_any hst)
      · exact call_sp c.tb ok1 r q.2 (q.1.trans hp.symm) (fun d v S2 H2 q2 ok2 ex2 r2 => kq d v S2 H2 q2 ok2 (ex.tr ex2) r2) kx
      · obtain ⟨vs, H1, I1, r, q⟩ := hh
        have bd := h3 s1 us I1.kIn (by rw [List.append_nil, ← r.length]; exact q.1)
        rw [List.append_nil] at bd
        exact ⟨I1.kIn, run_g h5 (c.mono hk) bd I1 r q⟩
    · exact hm.elim
  · exact hm.elim
end
end DL

set_option Elab.async false
set_option linter.all false
set_option maxRecDepth 100000
set_option maxHeartbeats 2000000
/-! DX: raise; try .. except X as n, the exception kept as a value. -/
namespace DL
open PySem PySem.Spec PyProof.Rows L2

section
variable {X : Cx} {g : Gd} {B : Hp × Hp} {E : XK} {n k : Nat} {x y fn : Str} {C fI : Addr} {a : Expr} {ma : EM} {p p2 pos pos' : Pos}
@[simp] def sRz (x fn : Str) (ma : EM) : SM := fun env k => ma env (fun d => k.er (.exc x [fn] [d])) k.er
/-- raise x(e): x has the one field -/
theorem ds_rz {T : List (Addr × Str)} (c : CxK T (n + 1) X g E) (T : SupC X.prog X.K X.mg C fI y fn) (hm : X.mg x = some (.ref C)) (hg : Gl X x) (ha : DE X g B E a ma) (hdb : (x == ("__debug__" : Str)) = false := by decide)
    (he : starEach [a] X.env = (false, eval a X.env) :: starEach [] X.env := by rfl) (hpl : (backTo pos (starEach [] X.env)).any (·.1) = false := by rfl) : DS X g B E (.Raise (some (.Call (.Name x p) [a] [] pos)) none pos') (sRz x fn ma) := by
  refine ps_imp (ps_raise c.calm c.tk (pmk_sup T c.room hg hm ha hdb he hpl)) fun De σ H h => ?_
  obtain ⟨env, S, k, ok, hq, kk⟩ := h
  refine ⟨env, S, _, k.er, ok, hq, fun d v S1 H1 q ok1 ex r dx hd => ?_, kk.er⟩
  have nw := New.add (o := .xd [(fn, v)]) ok1.frm.le hd (fun ps z => by cases z)
  refine kk.er _ _ _ (upd S1 dx (.xd [(fn, v)])) _ q (ok1.frm.new nw) ⟨C, [v], hm, rfl, Reps.cons (r.mono nw.ss) Reps.nil, rfl, fun d2 z => ?_, fun z => by cases z⟩
  cases z
  exact upd_same
@[simp] def sR0 (x : Str) : SM := fun _ k => k.er (.exc x [] [])
/-- raise x(text): x has no __init__ of its own -/
theorem ds_r0 {m : Str} {j : Nat} {bmB : List Value} {T : List (Addr × Str)} (c : CxK T n X g E) (q : PySem.W.excIn X.K C bmB "ValueError.__new__" = true) (Fb : ExcBaseFacts "ValueError" "ValueError.__new__" "ValueError.__init__" bmB) (hm : X.mg x = some (.ref C)) (kC : PySem.W.keepIn X.K (.ref C) = true)
    (h1 : PySem.W.subIn X.K (.ref C) (.type "BaseException") = some true) (h2 : PySem.W.typeIn X.K (.ref C) = some (.type "type")) (hg : Gl X x) (hdb : (x == ("__debug__" : Str)) = false := by decide) :
    DS X g B E (.Raise (some (.Call (.Name x p) [.Constant (.str m) j p2] [] pos)) none pos') (sR0 x) := by
  refine ps_imp (ps_raise c.calm c.tk (pmk_own Fb q hm kC (raises_own h1 h2) hg hdb)) fun De σ H h => ?_
  obtain ⟨env, S, k, ok, hq, kk⟩ := h
  exact kk.er _ _ _ S _ hq ok.frm ⟨C, [], hm, rfl, Reps.nil, rfl, (fun d2 z => by cases z), fun _ => rfl⟩
end

/-! ### an object that stands is told of from now on -/
theorem told {X : Cx} {pins : List (Addr × Obj)} {σ : L2.St} {H : Hp} {s : Shared} {a : Addr} {o : HO} (I : Inv X pins σ H s) (n0 : X.s_0.heap.get? a = none) (nL : a ≠ X.env.locals) (nC : ∀ x c, X.env.cells.lookup x = some c → c ≠ a) (nP : ∀ p ∈ X.pn ++ pins, p.1 ≠ a)
    (hn : H a = none) (new : ObjOk X.prog X.w (upd H a o) s.heap a o) : Inv X pins σ (upd H a o) s where
  ok := I.ok
  os := I.os
  bare := I.bare
  base := {
    keep := I.base.keep
    slot := I.base.slot
    free := fun b u e m q => by
      rw [upd_ne (fun z => by rw [z, n0] at e; cases e)]
      exact I.base.free b u e m q
    there := I.base.there
    tups := fun b xs e => by
      have z := I.base.tups b xs e
      rw [upd_ne (ne_of_none z hn)]
      exact z
    frzs := fun b u xs e => by
      have z := I.base.frzs b u xs e
      rw [upd_ne (ne_of_none z hn)]
      exact z
    tbls := fun b ps e => by
      obtain ⟨m, z⟩ := I.base.tbls b ps e
      refine ⟨m, ?_⟩
      rw [upd_ne (ne_of_none z hn)]
      exact z }
  loc := I.loc
  cell := I.cell
  free := by
    rw [upd_ne (Ne.symm nL)]
    exact I.free
  freeC := fun x c e => by
    rw [upd_ne (nC x c e)]
    exact I.freeC x c e
  pin := fun p hp => by
    obtain ⟨h1, h2, h3⟩ := I.pin p hp
    refine ⟨h1, ?_, h3⟩
    rw [upd_ne (nP p hp)]
    exact h2
  hok := fun b u e => by
    by_cases hb : b = a
    · rw [hb, upd_same] at e
      rw [hb, ← Option.some.inj e]
      exact new
    · rw [upd_ne hb] at e
      refine (I.hok b u e).stay (fun c v _ z => z) (fun c z => ?_) fun c xs z => ?_
      · rw [upd_ne (ne_of_none z hn)]
        exact z
      · rw [upd_ne (ne_of_none z hn)]
        exact z
  len := I.len

/-! ### try: body, except x as n: suite; the exception stays -/
/-- all ends behind it with the exception told of, its name gone -/
def Ends.kept (D : Ends) (i : Nat) (a : Addr) (o : HO) : Ends := { nx := fun σ H => D.nx (σ.set i none) (upd H a o), rt := fun v H => D.rt v (upd H a o), bk := fun σ H => D.bk (σ.set i none) (upd H a o), ct := fun σ H => D.ct (σ.set i none) (upd H a o) }
def wKp (K : PySem.W.Frag) (c : Value) (i : Nat) (ts : Addr → TS) (D : Ends) : WX := fun cls d σ H => PySem.W.exmOne K cls c = some true ∧ ∀ a, H a = none → ts a (Ends.kept D i a (exV cls d a)) (σ.set i (some (.ref a))) H
section
variable {X : Cx} {x n : Str} {c : Value} {i : Nat} {body suite : List Stmt} {np pos pos' : Pos} {tb : WX → TS} {ts : Addr → TS}
theorem ps_kept (hs : X.stack = X.env :: X.outer) (hf : X.env.frame = some X.env.locals) (hN : X.N.Nodup) (hi : X.N[i]? = some n) (hln : X.env.kindOf n = some .local) (hc : Names X x c) (hex : X.ex = [])
    (hb : ∀ (W : WX) (pn : List (Addr × Obj)) (xe : Value → Shared → Prop), Takes (X.tr pn xe) W → PassesOwn (model X.prog X.w) X.A X.env xe → PSs (X.tr pn xe) body (tb W))
    (hsu : ∀ (a : Addr) (oe : Obj) (pn : List (Addr × Obj)), PSs (X.suite a ((a, oe) :: pn)) suite (ts a)) (hne : suite ≠ []) :
    PS X (.Try body [.ExceptHandler (some (.Name x np)) (some n) suite pos'] [] [] pos) (fun D σ H => tb (wKp X.K c i ts D) D σ H) := by
  obtain ⟨b₀, suite', rfl⟩ : ∃ b r, suite = b :: r := by
    cases suite with
    | nil => exact absurd rfl hne
    | cons b r => exact ⟨b, r, rfl⟩
  refine ⟨fun pins s σ H D I h => ?_⟩
  have hfs : X.A.frames = some (X.env :: X.outer) := by
    rw [I.ok.frames, hs]
  refine wpAny_Try_except (wpAny_mono ((hb (wKp X.K c i ts D) (X.pn ++ pins) _ (fun u s1 z => ?_) PassesOwn.looking).run [] s σ H D (I.toTry _) h) (fun f s1 z => ?_) fun e s1 z => z)
  · obtain ⟨a, Bg, sI, pins1, σ1, H1, cls, d, rfl, J1, nb, up, sky, na, os, ag, hx, hyes⟩ := z
    have J := J1.ofTry I.ok
    have sky1 : Sky Bg (X.env :: X.outer) a (Zc cls d) X.env.locals s1.heap := by
      rw [← hs]
      exact sky
    show wpAny (model X.prog X.w) X.A (noteFrame (.ref a) X.env) _ _ _
    refine Sky.land Zc.steady hfs hf sky1 fun h3 fly3 up3 => ?_
    have J3 : Inv X pins σ1 H1 { s1 with heap := h3 } := J.landed nb fly3.1 (up.trans up3) os ag
    obtain ⟨oe3, vs3, he3, hz3, hd3⟩ := fly3.there
    have nfr : a ∉ frs (X.env :: X.outer) := fun hm => by
      obtain ⟨_, o, e, hnf⟩ := fly3.2.2.1.mem hm
      rw [he3] at e
      cases e
      exact hnf _ hd3
    have nL : a ≠ X.env.locals := fun z => nfr (List.mem_filterMap.mpr ⟨X.env, List.mem_cons_self, by rw [hf, z]⟩)
    have nF : a ∉ X.fs := fun hm => by
      obtain ⟨e, he, q⟩ := List.mem_filterMap.mp hm
      exact nfr (List.mem_filterMap.mpr ⟨e, List.mem_cons_of_mem _ he, q⟩)
    -- it is new
    have nI : sI.heap.get? a = none := by
      cases e : sI.heap.get? a with
      | none => rfl
      | some o =>
        have z := nb a o e (by
          show a ∉ frs X.stack
          rw [hs]
          exact nfr)
        rw [fly3.2.1] at z
        cases z
    have n0 : X.s_0.heap.get? a = none := by
      cases e : X.s_0.heap.get? a with
      | none => rfl
      | some o =>
        obtain ⟨o', z⟩ := J.base.there a o e (by rw [hex]; exact fun z => nomatch z)
        rw [nI] at z
        cases z
    have nP : ∀ q ∈ X.pn ++ pins, q.1 ≠ a := fun q hq z => by
      have y := (J.pin q hq).1
      rw [z, nI] at y
      cases y
    have nC : ∀ y c, X.env.cells.lookup y = some c → c ≠ a := fun y c e z => by
      obtain ⟨v, o, y1, y2⟩ := J.cell y c e
      rw [z, nI] at y1
      cases y1
    have S3 := J3.suite he3 hd3 na nL nF
    refine wpAny_handleBy_cons (codeAny_handlers_test ?_) (by intro q; cases q)
    have LT : PySem.W.Looks (model X.prog X.w) h3 (typeOf (.ref a)) cls := fun A' Q' E' s' k' q' => wpAny_typeOf_ref (k' _ _ he3) (by rw [hz3.1]; exact q')
    have LM := PySem.W.exm_one (M := model X.prog X.w) (J3.kIn) LT hx
    have test : ∀ {Q' : Value → Shared → Prop} {E' : Value → Shared → Prop}, Q' c { s1 with heap := h3 } → wpAny (model X.prog X.w) (X.A.mark (some (.ref a))) (eval (.Name x np) X.env) Q' E' { s1 with heap := h3 } := fun {Q' E'} q => by
      obtain ⟨hg, hdb, hm | ⟨hm, hv, hnn⟩⟩ := hc
      · exact ld_glob (X := X.suite a ((a, oe3) :: (X.pn ++ pins))) S3 hg hm q hdb
      · exact ld_blt (X := X.suite a ((a, oe3) :: (X.pn ++ pins))) S3 hg hm hv q hnn hdb
    refine test (LM.here ?_)
    refine codeAny_handlers_suite_as (HandSPX.lands_againZ fly3 fun h4 fly4 up4 => ?_)
    have J4 : Inv X pins σ1 H1 { s1 with heap := h4 } := J.landed nb fly4.1 ((up.trans up3).trans up4) os ag
    obtain ⟨oe4, vs4, he4, hz4, hd4⟩ := fly4.there
    have S4 := J4.suite he4 hd4 na nL nF
    refine store_ok (X := X.suite a ((a, oe4) :: (X.pn ++ pins))) (v := .ref a) S4 hN hi (.inl hln) rfl (fun s5 S5 => ?_) (.inr hln)
    refine wpAny_mono ((hsu a oe4 (X.pn ++ pins)).run [] s5 _ H1 _ S5 (hyes a na)) (fun f s6 z => ?_) (fun _ _ z => False.elim z)
    have fin : ∀ {σ6 : L2.St} {H6 : Hp} {Q' : Shared → Prop}, Inv (X.suite a ((a, oe4) :: (X.pn ++ pins))) [] σ6 H6 s6 → (∀ s7, Inv X pins (σ6.set i none) (upd H6 a (exV cls d a)) s7 → Q' s7) →
        wpAny (model X.prog X.w) X.A (do bindName X.env n .none; unbindBehindTheSuite X.env n pos') (fun _ s7 => Q' s7) X.xe s6 := fun {σ6 H6 Q'} S6 hq => by
      obtain ⟨p1, p2, _⟩ := S6.pin (a, oe4) (by rw [List.append_nil]; exact List.mem_cons_self)
      exact gone_ok (told (o := exV cls d a) (S6.unsuite I.ok) n0 nL nC nP p2 ⟨⟨oe4, vs4, p1, hz4, hd4⟩, ⟨_, p1⟩, fun _ _ ⟨o1, v1, y1, y2⟩ k' => ⟨o1, v1, k' _ y1, y2⟩⟩) hN hi hln hq
    cases f with
    | next =>
      obtain ⟨σ6, H6, S6, q6⟩ := z
      exact fin S6 fun s7 J7 => ⟨_, _, J7, q6⟩
    | brk =>
      obtain ⟨σ6, H6, S6, q6⟩ := z
      exact fin S6 fun s7 J7 => ⟨_, _, J7, q6⟩
    | cont =>
      obtain ⟨σ6, H6, S6, q6⟩ := z
      exact fin S6 fun s7 J7 => ⟨_, _, J7, q6⟩
    | ret u =>
      obtain ⟨v6, σ6, H6, S6, r6, q6⟩ := z
      exact fin S6 fun s7 J7 => ⟨_, _, _, J7, r6, q6⟩
  · cases f with
    | next =>
      obtain ⟨σ1, H1, J, q⟩ := z
      exact wpAny_execs_nil ⟨σ1, H1, J.ofTry I.ok, q⟩
    | brk =>
      obtain ⟨σ1, H1, J, q⟩ := z
      exact ⟨σ1, H1, J.ofTry I.ok, q⟩
    | cont =>
      obtain ⟨σ1, H1, J, q⟩ := z
      exact ⟨σ1, H1, J.ofTry I.ok, q⟩
    | ret u =>
      obtain ⟨v, σ1, H1, J, r, q⟩ := z
      exact ⟨v, σ1, H1, J.ofTry I.ok, r, q⟩
end
end DL

set_option Elab.async false
set_option linter.all false
set_option maxRecDepth 100000
set_option maxHeartbeats 2000000
/-! DY: a lambda handed to the def that keeps what is raised. -/
namespace DL
open PySem PySem.Spec PyProof.Rows L2 LamX

section
variable {X : Cx} {pins : List (Addr × Obj)} {σ : L2.St} {H : Hp} {s : Shared}
/-- the slot's lambda called, within the def that was handed it -/
theorem lam_act {Eg E : XK} {Ng : List Str} {qg : Str} {sg : Scope} {gA f c' : Addr} {cdg pm ctv : Value} {params : Arguments} {body : Expr} {scope : Scope} {k i : Nat} {a : Str} {pn : List (Addr × Obj)} {xe : Value → Shared → Prop} {W : WX} {tb : TE} {p1 p2 : Pos}
    (hgd : X.A.guards = some []) (hr : Room (k + 1) (X.A.deeper (envOfC qg sg s.heap.objs.size gA cdg))) (I : Inv X pins σ H s) (L : LamS X.env.scope scope) (hfn : H f = none) (hfr : f ∉ frs X.stack)
    (hf : s.heap.get? f = some (PySem.W.kla_obj "<lambda>" (X.env.qual ++ "<lambda>") params body scope (cloFrom X.env.cells scope.names []) pm c' ctv))
    (hbd : bindArgs (PySem.W.kla_fn "<lambda>" (X.env.qual ++ "<lambda>") params body scope (cloFrom X.env.cells scope.names []) pm (.ref c') ctv) ⟨[], []⟩ = pure [])
    (tk : Takes ((cxOf (L2.CX X.prog X.w) X.prog X.w X.K X.mg X.base Ng qg sg gA cdg X.A X.stack s H Eg).tr pn xe) W) (hW : ∀ cls d σ' H', E cls d H' → W cls d σ' H')
    (hbody : ∀ (A : Around) (outer : List Env) (s : Shared) (H : Hp), A.guards = some [] → Room k (A.deeper (lamEnv X scope s.heap.objs.size f c')) → PE (lamCx X A outer s H E scope f c') body tb)
    (hN : Ng[i]? = some a) (hv : Vis sg a) (hd : (a == ("__debug__" : Str)) = false) (hcd : (a == ("__classdict__" : Str)) = false) :
    PE ((cxOf (L2.CX X.prog X.w) X.prog X.w X.K X.mg X.base Ng qg sg gA cdg X.A X.stack s H Eg).tr pn xe) (.Call (.Name a p1) [] [] p2) (fun σZ HZ Q => σZ[i]? = some (some (.ref f)) ∧ HZ c' = some (CodeO c' (X.env.qual ++ "<lambda>")) ∧ tb σ HZ Q) := by
  refine ⟨fun pz sz σz Hz Q Iz hh => ?_⟩
  obtain ⟨hs, hco, ht⟩ := hh
  refine wpAny_Call_Name_kw (thn ((pe_var (pos := p1) (i := i) hN hv hd hcd).run pz sz σz Hz (fun v H2 => v = .ref f ∧ H2 = Hz) Iz ⟨.ref f, hs, rfl, rfl⟩) fun u s2 ⟨v, H2, I2, r2, e2⟩ => ?_)
  obtain ⟨ev, eh⟩ := e2
  rw [eh] at I2
  rw [ev] at r2
  obtain rfl : u = Value.ref f := r2
  have uz : Un (frs X.stack) [] H Hz s.heap s2.heap := I2.base
  have hf2 := uz.keep f _ hf hfn hfr (by simp)
  refine PySem.W.callWith_F0 ⟨_, _, _, _, hf2⟩ ?_
  obtain ⟨⟨oc, vs, tq, g1, g2, g3⟩, _, _⟩ := I2.hok c' _ hco
  have px := passes_call (E := E) tk hW
  refine wpAny_call (codeAny_mono (R := CR (L2.CX X.prog X.w) (envOfC qg sg s.heap.objs.size gA cdg :: X.stack) X.prog X.w Hz s2 Q E) ?_ fun res s3 hq => ?_)
  · refine PySem.W.kla_callFunE hr.depth hf2 rfl L.co L.gen rfl ⟨c', oc, vs, tq, rfl, g1, g2, g3⟩ ?_
    refine wpAny_of_eq (a := []) hbd (wpAny_newFunctionEnv (fun y hy => (L.own y hy).2) (fun y hy => absurd hy (by simp)) (fun hz hns hsb => ⟨I2.nolimit.fresh _ hsb, ?_⟩) L.kind)
    have kz : ∀ b o, s2.heap.get? b = some o → hz.get? b = some o := fun b o e => hsb.extBut b o (Nat.ne_of_lt (Heap.lt_size e)) (Heap.get?_push_of_some _ e)
    have J := lam_start2 (E := E) (f := f) (c' := c') (tk := s2.toks + ([] : List (Str × Value)).length) I L I2.env0 hr.hd uz hns kz
    refine PySem.W.kla_codeExpr (wpAny_mono ((hbody (X.A.deeper (envOfC qg sg s.heap.objs.size gA cdg)) _ s2 Hz hgd (hr.deeper _)).run [] _ _ Hz Q J ht) (fun v s4 hq => ?_) fun e s4 hq => hq)
    obtain ⟨w', H4, J4, rv, q⟩ := hq
    exact ⟨w', H4, J4.os, J4.bare, J4.base, J4.hok, rv, q⟩
  · cases res with
    | error e => exact px pz σz Hz s2 e s3 I2 hq
    | ok fl =>
      cases fl with
      | ret u => exact I2.after hq
      | _ => exact False.elim hq
end

/-! ### the def that keeps what is raised -/
theorem Ok.lam {K : PySem.W.Frag} {mg : Str → Option Value} {g : Gd} {B : Hp × Hp} {env : Ev} {S : Hp} {σ : L2.St} {H H1 : Hp} (k : Ok K mg g B env S σ H) (e : ExtN H H1) (t : Tabs g.T H1) : Ok K mg g B env S σ H1 where
  frm := k.frm.tabs e t
  len := k.len
  slots := fun i s q => by
    have z := k.slots i s q
    cases s with
    | un => trivial
    | sh d => exact z
    | own l =>
      obtain ⟨a, vs, h1, h2, h3, h4, h5, h6⟩ := z
      exact ⟨a, vs, h1, h2, h3, h4, e _ _ h5 (fun ps w => by cases w), h6⟩
  apart := k.apart
/-- slots of an exception's frame are as many as the names -/
theorem takes_len {X : Cx} {W : WX} (t : Takes X W) : Takes X (fun c d σ H => σ.length = X.N.length → W c d σ H) := fun u s z => by
  obtain ⟨a, B, sI, pins, σ, H, cls, d, h1, I, h2, h3, h4, h5, h6, h7, h8⟩ := z
  exact t u s ⟨a, B, sI, pins, σ, H, cls, d, h1, I, h2, h3, h4, h5, h6, h7, h8 I.len⟩
/-- its body: n = None; try: a() except x as e: n = e; return n -/
structure KeepBody (st : Stmt) (a nm x er : Str) : Prop where
  ex : ∃ (q1 q2 q3 p1 p2 p3 np r1 r2 r3 p4 p5 w1 w2 : Pos) (j : Nat), defBody st = [.Assign [.Name nm q1] (.Constant .none j q2) q3,
    .Try [.Expr (.Call (.Name a p1) [] [] p2) p3] [.ExceptHandler (some (.Name x np)) (some er) [.Assign [.Name nm r1] (.Name er r2) r3] p4] [] [] p5, .Return (some (.Name nm w1)) w2]
  scope : FnScope [a, nm, er] [a] (defScope st)
  la : (defScope st).names.lookup a = some .local
  ln : (defScope st).names.lookup nm = some .local
  le : (defScope st).names.lookup er = some .local
  lx : (defScope st).names.lookup x = some .globalImplicit
  nd : (a == ("__debug__" : Str)) = false ∧ (a == ("__classdict__" : Str)) = false ∧ (nm == ("__debug__" : Str)) = false ∧ (nm == ("__classdict__" : Str)) = false ∧ (er == ("__debug__" : Str)) = false ∧ (er == ("__classdict__" : Str)) = false ∧ (x == ("__debug__" : Str)) = false
/-- x(lambda: e): None, or the exception that came -/
@[simp] def eCa (sub : Str → Bool) (mb : EM) : EM := fun env P Z => mb (env.map noOwn) (fun _ => P .non) (fun y => match y with
  | .exc cx ns ds => sub cx = true ∧ P (.exc cx ns ds)
  | _ => False)
section
variable {X : Cx} {g : Gd} {B : Hp × Hp} {E : XK}
theorem de_caught {T : List (Addr × Str)} {n : Nat} {st : Stmt} {x xe a nm er : Str} {gA CS cA PA : Addr} {fd : FuncData} {params : Arguments} {body : Expr} {scope : Scope} {p lpos pos : Pos} {sub : Str → Bool} {mb : EM} (c : CxK T (n + 2) X g E) (hg : Gl X x) (hm : X.mg x = some (.ref gA))
    (F : Fun X.K x x st gA fd) (hb : Binds X.K fd [a] []) (kb : KeepBody st a nm xe er) (hme : X.mg xe = some (.ref CS)) (hsub : ∀ cx Cx, sub cx = true → X.mg cx = some (.ref Cx) → PySem.W.exmOne X.K (.ref Cx) (.ref CS) = some true)
    (TB : TabB X.base X.mg cA PA) (hcode : X.env.code = .ref cA) (hmT : (PA, X.env.qual ++ "<lambda>") ∈ T) (hu : ∀ p ∈ T, p.1 = PA → p.2 = X.env.qual ++ "<lambda>") (L : LamS X.env.scope scope) (hdef : defaultsOf params X.env = ([], []))
    (hbind : ∀ (q : Str) (cl : List (Str × Addr)) (pm cv ctv : Value), bindArgs (PySem.W.kla_fn "<lambda>" q params body scope cl pm cv ctv) ⟨[], []⟩ = pure [])
    (hbody : ∀ (A : Around) (outer : List Env) (s : Shared) (H : Hp) (E' : XK) (f c' : Addr) (B' : Hp × Hp), CxK T n (lamCx X A outer s H E' scope f c') g E' → DE (lamCx X A outer s H E' scope f c') g B' E' body mb)
    (hdb : (x == ("__debug__" : Str)) = false := by decide) : DE X g B E (.Call (.Name x p) [.Lambda params body scope lpos] [] pos) (eCa sub mb) := by
  obtain ⟨q1, q2, q3, p1, p2, p3, np, r1, r2, r3, p4, p5, w1, w2, j, hbd⟩ := kb.ex
  obtain ⟨d1, d2, d3, d4, d5, d6, d7⟩ := kb.nd
  obtain ⟨oc, od, kV, doc, pm, an, cdv, ct, osl, e, lk, hcg⟩ := F.ex
  subst e
  refine ⟨fun pins s σ H Q I hh => ?_⟩
  obtain ⟨env, S, P, Z, ok, hq, kq, kx⟩ := hh
  have hT : Tabs T H := by
    rw [← c.tb]
    exact ok.frm.tb
  refine wpAny_Call_Name_kw (ld_glob I hg hm ?_ hdb)
  refine PySem.W.callWith_K (h₀ := X.base) I.ok.mod.kin F.kp ?_ (by rfl) (by rfl)
  show wpAny _ _ (spliced ((false, eval (.Lambda params body scope lpos) X.env) :: _)) _ _ s
  refine Calls.spliced_cons (lam_make2 I TB hcode hmT hu hT hdef (L.has I.ok) fun f c' pm2 ctv H1 s1 I1 eN T1 hf hfn hfr hco => ?_)
  refine Calls.spliced_nil ⟨I1.kIn, ?_⟩
  have ok1 : Ok X.K X.mg g B env S σ H1 := ok.lam eN (by rw [c.tb]; exact T1)
  have rc : codeAny (model X.prog X.w) X.A (.call (.ref gA) ⟨[.ref f], []⟩) (CR (L2.CX X.prog X.w) X.stack X.prog X.w H1 s1 Q (fun _ _ _ => False)) s1 := by
    refine run_ofS (N := [a, nm, er]) (ps := [a]) (us := [.ref f]) (vs := [.ref f]) lk hcg kb.scope c.room I1.env0 (hb s1 [.ref f] I1.kIn rfl) (.cons rfl .nil) rfl fun hr2 => ?_
    rw [hbd]
    refine ⟨_, pss_cons (ps_set (i := 1) kb.scope.nd rfl (.inl kb.ln) pe_non rfl (.inr kb.ln)) (pss_cons (ps_kept (i := 2) (c := .ref CS) (ts := fun _ => tAsg (tVar 2) (gName 1))
      (tb := fun W D σz Hz => ∃ Ech : XK, (∀ cls d σ' H', Ech cls d H' → σ'.length = 3 → W cls d σ' H') ∧ σz[0]? = some (some (.ref f)) ∧ Hz c' = some (CodeO c' (X.env.qual ++ "<lambda>")) ∧ ∃ B', clo X g B' Ech mb σ Hz fun _ H' => D.nx σz H')
      rfl rfl kb.scope.nd rfl kb.le ⟨kb.lx, d7, .inl hme⟩ rfl (fun W pn xe tk _ => ⟨fun pz sz σz Hz D Iz hz => ?_⟩) (fun a' oe pn => pss_one (ps_set (i := 1) kb.scope.nd rfl (.inl kb.ln) (pe_var (i := 2) rfl (.inl kb.le) d5 d6) rfl (.inr kb.ln))) (by simp)) (pss_one (ps_ret (pe_var (i := 1) rfl (.inl kb.ln) d3 d4)))), ?_⟩
    · obtain ⟨Ech, hW, h1, h2, h3⟩ := hz
      exact (pss_one (ps_expr (lam_act (i := 0) (E := Ech) c.gd hr2 I1 L hfn hfr hf (hbind _ _ _ _ _) (takes_len tk) (fun cls d σ' H' z hl => hW cls d σ' H' z hl) (fun A outer s2 H2 hA hR =>
        pe_any (t := fun B1 => clo X g B1 Ech mb) fun B' => hbody A outer s2 H2 Ech f c' B' ⟨hR, c.tb, hA, takes_of rfl rfl rfl rfl, rfl⟩) rfl (.inl kb.la) d1 d2))).run pz sz σz Hz D Iz ⟨h1, h2, h3⟩
    · refine ⟨fun cls d H2 => PySem.W.exmOne X.K cls (.ref CS) = some true ∧ ∀ a', H2 a' = none → Q (.ref a') (upd H2 a' (exV cls d a')), fun cls d σ2 H2 z hl => ⟨z.1, fun a' ha' => ?_⟩, rfl, hco, (S, H1), env.map noOwn, S, _, _, ok1.noOwn, hq, fun d v S2 H2 q2 ok2 ex2 rv => ?_, fun y cls dx S2 H2 q2 f2 rx => ?_⟩
      · refine ⟨.ref a', by rw [List.getElem?_set_self (by omega)], ?_⟩
        refine ⟨.ref a', ?_, z.2 a' ha'⟩
        rw [List.getElem?_set_ne (by decide), List.getElem?_set_self (by rw [List.length_set]; omega)]
      · exact ⟨.non, rfl, kq .non .non S2 H2 q2 (ok1.call ok2.frm) ex2 (by unfold Rep; rfl)⟩
      · cases y with
        | exc cx ns ds =>
          obtain ⟨Cx, vs, x1, x2, x3, x4, x5, x6⟩ := rx
          subst x2
          refine ⟨hsub cx Cx q2.1 x1, fun a' ha' => ?_⟩
          have nw := New.add (o := exV (.ref Cx) dx a') f2.le ha' (fun ps w => by unfold exV at w; cases w)
          refine kq (.exc cx ns ds) (.ref a') _ _ q2.2 (ok1.call (f2.new nw)) (f2.ss.tr nw.ss) ?_
          unfold Rep
          exact ⟨a', Cx, dx, vs, rfl, x1, upd_same, x3.mono nw.ss, x4, fun d2 w => nw.ss _ _ (x5 d2 w), x6⟩
        | _ => exact q2.elim
  refine wpAny_call (codeAny_mono rc fun res s2 hq2 => ?_)
  cases res with
  | error e =>
    obtain ⟨_, _, _, _, _, _, _, _, _, _, _, _, w⟩ := hq2
    exact w.elim
  | ok fl =>
    cases fl with
    | ret u => exact I1.after hq2
    | _ => exact False.elim hq2
end
end DL

set_option Elab.async false
set_option linter.all false
set_option maxRecDepth 100000
set_option maxHeartbeats 2000000
/-! DZ: isinstance; fields of an exception that is held. -/
namespace DL
open PySem PySem.Spec PyProof.Rows L2

/-- what the written part says of an own exception class -/
structure XcK (K : PySem.W.Frag) (C : Addr) : Prop where
  cl : (PySem.W.clsIn K C).isSome = true
  hd : PySem.W.hasDictIn K C = true
  ga : PySem.W.findIn K (.ref C) "__getattribute__" = some (some (.builtin "BaseException.__getattribute__"))
  gg : PySem.W.findIn K (.ref C) "__getattr__" = some none
  ex : PySem.W.subIn K (.ref C) (.type "BaseException") = some true
  cc : PySem.W.findIn K (.ref C) "__class__" = some (some (.builtin "object.__class__"))
  gs : PySem.W.specialIn K (.builtin "object.__class__") "__get__" = some (some (.builtin "getset_descriptor.__get__"))
  tk : PySem.W.takesIn K (.builtin "object.__class__") = some true
  ob : PySem.W.mroIn K C (.type "object") = some true
section
variable {X : Cx}
/-- the object behind such a value, in the heap -/
theorem exV_at {H : Hp} {h : Heap} {a C : Addr} {d : Option Addr} (ok : HOk X.prog X.w H h) (e : H a = some (exV (.ref C) d a)) (hd : ∀ dx, d = some dx → ∃ fs, H dx = some (.xd fs)) :
    ∃ ox od, PySem.W.InstAt h a ox C od ∧ ∀ dx, d = some dx → ∃ (fs : List (Str × V)) (o : Obj) (mA : Str → Option Value), H dx = some (.xd fs) ∧ od = some o ∧ (∀ name, PySem.W.lookIn name o = some (mA name)) ∧ ∀ f, RelO (fs.lookup f) (mA f) := by
  have z : ObjOk X.prog X.w H h a (exV (.ref C) d a) := ok a _ e
  obtain ⟨⟨oe, vs, h1, ⟨h2, h3⟩, h4⟩, _, _⟩ := z
  obtain ⟨oc, od', odt, osl⟩ := oe
  dsimp only at h2 h3 h4
  subst h2 h4
  cases od' with
  | none =>
    cases h3
    exact ⟨_, none, ⟨h1, rfl, rfl, trivial⟩, fun dx q => by cases q⟩
  | some dx =>
    cases h3
    obtain ⟨fs, hx⟩ := hd dx rfl
    have y : ObjOk X.prog X.w H h dx (.xd fs) := ok dx _ hx
    obtain ⟨mA, hn, hr⟩ := y
    obtain ⟨o, ho, hl⟩ := lookIn_ns hn
    exact ⟨_, some o, ⟨h1, rfl, rfl, ho⟩, fun dx2 q => by cases q; exact ⟨fs, o, mA, hx, rfl, hl, hr⟩⟩
def rIsX (K : PySem.W.Frag) : List V → Hp → VK → Prop := fun xs H Q => ∃ (a C : Addr) (d : Option Addr) (c : V) (u : Value) (b : Bool), xs = [.ref a, c] ∧ ClsV c u ∧ H a = some (exV (.ref C) d a) ∧ (∀ dx, d = some dx → ∃ fs, H dx = some (.xd fs)) ∧ XcK K C ∧ PySem.W.kitOne K (.ref C) u = some b ∧ Q (.bl b) H
theorem call_isX : CallR X (.builtin "isinstance") (rIsX X.K) := by
  intro pins s σ H xs us Q I r h
  obtain ⟨a, C, d, c, u, b, rfl, hc, ha, hd, T, e, q⟩ := h
  obtain ⟨u1, u2, rfl, r1, r2⟩ := vals2 r
  have e2 := hc.eq r2
  subst e2
  obtain rfl : u1 = Value.ref a := r1
  obtain ⟨ox, od, J, _⟩ := exV_at I.hok ha hd
  exact PySem.W.kia_one (PySem.W.kitx_exc T.cl T.ga T.gg T.ex T.cc T.gs T.tk T.ob) I.kIn J e (fun z => nomatch z) fun tk => ⟨.bl b, H, I.tok tk, rfl, q⟩
end
/-- a plain datum's built-in type -/
@[simp] def tyN : D → Option String
  | .non => some "NoneType"
  | .bl _ => some "bool"
  | .int _ => some "int"
  | .str _ => some "str"
  | .tup _ => some "tuple"
  | .lst _ => some "list"
  | _ => none
/-- isinstance(x, c): ko, ke tell the answers for own classes -/
@[simp] def bIsi (ko : String → Str → Option Bool) (ke : Str → Str → Option Bool) : List D → W D := fun as P _ => match as with
  | [.exc x ns ds, .fn c] => match ke x c with
    | some b => P (.bl b)
    | none => False
  | [d, .ty T] => match tyN d with
    | some t => match kitB t T with
      | some b => P (.bl b)
      | none => False
    | none => False
  | [d, .fn c] => match tyN d with
    | some t => match ko t c with
      | some b => P (.bl b)
      | none => False
    | none => False
  | _ => False
section
variable {X : Cx} {g : Gd}
theorem tyx_of {S H : Hp} {d : D} {v : V} {t : String} (l : Le S H) (r : Rep X.K X.mg g S d v) (e : tyN d = some t) : TyX X.K H v (.type t) := by
  cases d with
  | non =>
    unfold Rep at r
    cases Option.some.inj e
    rw [r]
    exact .base .non
  | bl b =>
    unfold Rep at r
    cases Option.some.inj e
    rw [r]
    exact .base (.bl b)
  | int i =>
    unfold Rep at r
    cases Option.some.inj e
    rw [r]
    exact .base (.int i)
  | str i =>
    unfold Rep at r
    cases Option.some.inj e
    rw [r]
    exact .base (.str i)
  | tup ds =>
    unfold Rep at r
    cases Option.some.inj e
    obtain ⟨a, vs, rfl, h2, h3⟩ := r
    rcases l.sqT h2 with (z | ⟨o, z⟩) | ⟨o, its, n, z1, z2, z3⟩
    · exact .base (.tup z)
    · exact .fTuple z
    · exact .kTuple z1 z2
  | lst ds =>
    unfold Rep at r
    cases Option.some.inj e
    obtain ⟨a, vs, rfl, h2, h3⟩ := r
    rcases l.sqL (SqL.of h2) with (z | ⟨o, z⟩) | ⟨o, its, n, z1, z2, z3⟩
    · exact .base (.lst z)
    · exact .base (.frz z)
    · exact .kList z1 z2
  | _ => cases e

theorem bisi_ok {ko : String → Str → Option Bool} {ke : Str → Str → Option Bool} (hko : ∀ t c C b, ko t c = some b → X.mg c = some (.ref C) → PySem.W.kitOne X.K (.type t) (.ref C) = some b)
    (hke : ∀ x c Cx Cc b, ke x c = some b → X.mg x = some (.ref Cx) → X.mg c = some (.ref Cc) → XcK X.K Cx ∧ PySem.W.kitOne X.K (.ref Cx) (.ref Cc) = some b) : OpA X g (bIsi ko ke) (fun xs H Q => rIsi X.K xs H Q ∨ rIsX X.K xs H Q) := fun as xs B S H P Z Q f r h k => by
  unfold bIsi at h
  split at h
  · rename_i x ns ds c
    split at h
    · rename_i b e
      obtain ⟨v, w, rfl, rx, rc⟩ := rep2 r
      unfold Rep at rx rc
      obtain ⟨a, C, d, vs, rfl, hx, hS, hR, hl, hd, hn⟩ := rx
      obtain ⟨Cc, rfl, hc⟩ := rc
      obtain ⟨T, hk⟩ := hke x c C Cc b e hx hc
      refine .inr ⟨a, C, d, .ref Cc, .ref Cc, b, rfl, .own Cc, ?_, fun dx q => ⟨_, (f.le _ _ (hd dx q)).resolve_right fun z => by cases z.1⟩, T, hk, k _ _ S H h (New.rf f.le) (rb _ S)⟩
      exact (f.le _ _ hS).resolve_right fun z => by
        have z1 := z.1
        unfold exV at z1
        cases z1
    · exact h.elim
  · rename_i d T
    split at h
    · rename_i t et
      split at h
      · rename_i b e
        obtain ⟨v, w, rfl, rx, rc⟩ := rep2 r
        unfold Rep at rc
        subst rc
        exact .inl ⟨v, .ty T, .type t, .type T, b, rfl, .ty T, tyx_of f.le rx et, kit_ty e, k _ _ S H h (New.rf f.le) (rb _ S)⟩
      · exact h.elim
    · exact h.elim
  · rename_i d c hd
    split at h
    · rename_i t et
      split at h
      · rename_i b e
        obtain ⟨v, w, rfl, rx, rc⟩ := rep2 r
        unfold Rep at rc
        obtain ⟨Cc, rfl, hc⟩ := rc
        exact .inl ⟨v, .ref Cc, .type t, .ref Cc, b, rfl, .own Cc, tyx_of f.le rx et, hko t c Cc b e hc, k _ _ S H h (New.rf f.le) (rb _ S)⟩
      · exact h.elim
    · exact h.elim
  · exact h.elim
theorem op_isi : CallR X (.builtin "isinstance") (fun xs H Q => rIsi X.K xs H Q ∨ rIsX X.K xs H Q) := callr_or call_isi call_isX
end

/-! ### o.f of an exception that is held -/
@[simp] def eXf (okx : Str → Bool) (fn : Str) (ma : EM) : EM := fun env P Z => ma env (fun d => match d with
  | .exc x ns ds => okx x = true ∧ match (ns.zip ds).lookup fn with
    | some y => P y
    | none => False
  | _ => False) Z
section
variable {X : Cx} {g : Gd} {B : Hp × Hp} {E : XK} {a : Expr} {ma : EM} {pos : Pos} {fn : Str}
theorem zip_look {S : Hp} : ∀ {ns : List Str} {ds : List D} {vs : List V} {y : D}, Reps X.K X.mg g S ds vs → (ns.zip ds).lookup fn = some y → ∃ v, (ns.zip vs).lookup fn = some v ∧ Rep X.K X.mg g S y v
  | [], ds, vs, y, r, e => by simp at e
  | n :: ns, [], vs, y, r, e => by simp at e
  | n :: ns, d :: ds, vs, y, r, e => by
    unfold Reps at r
    obtain ⟨w, ws, rfl, h2, h3⟩ := r
    rw [List.zip_cons_cons] at e ⊢
    by_cases q : (fn == n) = true
    · rw [List.lookup_cons, q] at e ⊢
      cases Option.some.inj e
      exact ⟨w, rfl, h2⟩
    · have q' : (fn == n) = false := by simpa using q
      rw [List.lookup_cons, q'] at e ⊢
      exact zip_look h3 e
theorem de_xf {okx : Str → Bool} (hk : ∀ x C, okx x = true → X.mg x = some (.ref C) → XcK X.K C ∧ PySem.W.findIn X.K (.ref C) fn = some none) (ha : DE X g B E a ma) (hb : attributeBase a fn X.env (eval a X.env) = eval a X.env := by rfl) : DE X g B E (.Attribute a fn pos) (eXf okx fn ma) := by
  refine ⟨fun pins s σ H Q I h => ?_⟩
  obtain ⟨env, S, P, Z, ok, hm, k, kx⟩ := h
  refine attr_of hb (thn (ha.run pins s σ H (fun v H1 => ∃ (a C : Addr) (dx : Addr) (fs : List (Str × V)) (w : V), v = .ref a ∧ H1 a = some (exV (.ref C) (some dx) a) ∧ H1 dx = some (.xd fs) ∧ fs.lookup fn = some w ∧ XcK X.K C ∧ PySem.W.findIn X.K (.ref C) fn = some none ∧ Q w H1) I
    ⟨env, S, _, Z, ok, hm, fun d v S1 H1 q ok1 ex r => ?_, kx⟩) fun u s1 hh => ?_)
  · cases d with
    | exc x ns ds =>
      obtain ⟨q1, q2⟩ := q
      split at q2
      · rename_i y ey
        unfold Rep at r
        obtain ⟨p, C, d, vs, rfl, hx, hS, hR, hl, hd, hn⟩ := r
        obtain ⟨w, hw, rw_⟩ := zip_look hR ey
        obtain ⟨T, hno⟩ := hk x C q1 hx
        cases d with
        | none =>
          rw [hn rfl] at ey
          simp at ey
        | some dx =>
          refine ⟨p, C, dx, _, w, rfl, ?_, (ok1.frm.le _ _ (hd dx rfl)).resolve_right (fun z => by cases z.1), hw, T, hno, k y w S1 H1 q2 ok1 ex rw_⟩
          exact (ok1.frm.le _ _ hS).resolve_right fun z => by
            have z1 := z.1
            unfold exV at z1
            cases z1
      · exact q2.elim
    | _ => exact q.elim
  · obtain ⟨v, H1, I1, r1, p, C, dx, fs, w, rfl, hp, hd, hw, T, hno, q⟩ := hh
    obtain rfl : u = Value.ref p := r1
    obtain ⟨ox, od, J, hy⟩ := exV_at I1.hok hp fun d2 z => by cases z; exact ⟨fs, hd⟩
    obtain ⟨fs2, o, mA, z1, z2, z3, z4⟩ := hy dx rfl
    rw [hd] at z1
    cases z1
    subst z2
    obtain ⟨u2, hu, ru⟩ := RelO.some_of (v := w) (o := mA fn) (by rw [← hw]; exact z4 fn)
    exact HandSPX.exc_get I1.kIn J T.ga T.gg T.ex (PySem.W.findObj_own T.hd hno rfl (by rw [z3, hu])) (handed_of ru) ⟨w, H1, I1.tok _, ru, q⟩
end
end DL

set_option Elab.async false
set_option linter.all false
set_option maxRecDepth 100000
set_option maxHeartbeats 2000000
/-! DR: repr, comb, texts. -/
namespace DL
open PySem PySem.Spec PyProof.Rows L2

/-! ### repr -/
mutual
theorem noDic : ∀ (d : D) (p : PyData), toPy d = some p → p.hasDict = false
  | .non, p, e => by cases Option.some.inj e; rfl
  | .bl b, p, e => by cases Option.some.inj e; rfl
  | .int i, p, e => by cases Option.some.inj e; rfl
  | .str x, p, e => by cases Option.some.inj e; rfl
  | .tup l, p, e => by
    unfold toPy at e
    cases q : toPys l with
    | none =>
      rw [q] at e
      cases e
    | some ps =>
      rw [q] at e
      cases Option.some.inj e
      exact noDics l ps q
  | .lst l, p, e => by
    unfold toPy at e
    cases q : toPys l with
    | none =>
      rw [q] at e
      cases e
    | some ps =>
      rw [q] at e
      cases Option.some.inj e
      exact noDics l ps q
  | .fn _, p, e => by cases e
  | .ty _, p, e => by cases e
  | .exc _ _ _, p, e => by cases e
  | .ins _ _ _, p, e => by cases e
  | .dic _ _, p, e => by cases e
  | .drw, p, e => by cases e
  | .scr _, p, e => by cases e
theorem noDics : ∀ (ds : List D) (ps : List PyData), toPys ds = some ps → PyData.hasDictAll ps = false
  | [], ps, e => by cases Option.some.inj e; rfl
  | d :: ds, ps, e => by
    unfold toPys at e
    cases q : toPy d with
    | none =>
      rw [q] at e
      cases e
    | some p =>
      rw [q] at e
      cases q2 : toPys ds with
      | none =>
        rw [q2] at e
        cases e
      | some ps' =>
        rw [q2] at e
        cases Option.some.inj e
        unfold PyData.hasDictAll
        rw [noDic d p q, noDics ds ps' q2]
        rfl
end
def rRpr (K : PySem.W.Frag) : List V → Hp → VK → Prop := fun xs H Q => ∃ v p, xs = [v] ∧ Dp K H v p ∧ p.showable = true ∧ p.hasDict = false ∧ p.shown.length ≤ sizeLine ∧ p.depth ≤ 100 ∧ Q (.str p.shown) H
theorem call_rpr {X : Cx} (hg : X.A.guards = some []) (hu : X.A.units + 200 < cLine) : CallR X (.builtin "repr") (rRpr X.K) := by
  intro pins s σ H xs us Q I r h
  obtain ⟨v, p, rfl, dp, hs, hd, hz, hp, q⟩ := h
  obtain ⟨u, rfl, ru⟩ := vals1 r
  obtain ⟨as, rd⟩ := Dp.reads I p v u dp ru
  have q2 : ∀ h' (t t' : Tok), (∀ b o, s.heap.get? b = some o → h'.get? b = some o) → EP X pins σ Q (.str p.shown t) { s with heap := h', toks := t' } := fun h' t t' k => ⟨.str p.shown, H, I.kept k, ⟨_, rfl⟩, q⟩
  cases rd with
  | none => exact PySem.P.repr_of_none (q2 s.heap _ _ fun _ _ z => z)
  | bool b => exact PySem.P.repr_of_bool (q2 s.heap _ _ fun _ _ z => z)
  | int i t => exact PySem.P.repr_of_int (by simpa [PyData.showable] using hs) (q2 s.heap _ _ fun _ _ z => z)
  | str x t => exact PySem.P.repr_of_str (q2 s.heap _ _ fun _ _ z => z) hz
  | list h1 h2 h3 h4 => exact repr_of_reads' (.list h1 h2 h3 h4) hs (PyData.noDict_hsm hd) hg (by omega) (fun _ _ z => z) (fun h' t t' k => q2 h' t t' k) hz
  | tuple h1 h2 h3 h4 => exact repr_of_reads' (.tuple h1 h2 h3 h4) hs (PyData.noDict_hsm hd) hg (by omega) (fun _ _ z => z) (fun h' t t' k => q2 h' t t' k) hz
  | dict h1 h2 h3 h4 h5 =>
    unfold PyData.hasDict at hd
    cases hd
@[simp] def bRpr : List D → W D := fun as P _ => match as with
  | [d] => match toPy d with
    | some p => (p.showable = true ∧ p.shown.length ≤ 16777216 ∧ p.depth ≤ 100) ∧ P (.str p.shown)
    | none => False
  | _ => False
theorem brpr_ok {X : Cx} {g : Gd} : OpA X g bRpr (rRpr X.K) := fun as xs B S H P Z Q f r h k => by
  unfold bRpr at h
  split at h
  · rename_i d
    split at h
    · rename_i p e
      obtain ⟨v, rfl, rv⟩ := rep1 r
      exact ⟨v, p, rfl, dp_of f.le d v p rv e, h.1.1, noDic d p e, by rw [sizeLine_eq]; exact h.1.2.1, h.1.2.2, k _ _ S H h.2 (New.rf f.le) (rs _ S)⟩
    · exact h.elim
  · exact h.elim

/-! ### times, of ints, of a text, of a list -/
def strTimes (x : Str) (n : Int) : Str := if n < 1 then Str.empty else if (n == 1 || x.length == 0) = true then x else ⟨(List.replicate n.toNat x.cps).foldl (· ++ ·) #[]⟩
def rStm : R2 := fun x y H Q => ∃ (a : Str) (n : Int), x = .str a ∧ y = .int n ∧ (0 ≤ n ∧ n ≤ 1000 ∧ a.length ≤ 1000) ∧ (strTimes a n).length ≤ sizeLine ∧ Q (.str (strTimes a n)) H
theorem op_stm {X : Cx} : OpR X (binaryOp .Mult) rStm := by
  intro pins s σ H x y v u Q I rx ry h
  obtain ⟨a, n, rfl, rfl, ⟨h0, h1, h2⟩, h3, q⟩ := h
  obtain ⟨t, rfl⟩ := (show ∃ t, v = Value.str a t from rx)
  obtain ⟨t2, rfl⟩ := (show ∃ t, u = Value.int n t from ry)
  have fin : ∀ (z : Str) (t3 : Tok) (t4 : Nat), z = strTimes a n → EP X pins σ Q (.str z t3) { s with toks := t4 } := fun z t3 t4 e => by
    rw [e]
    exact ⟨.str (strTimes a n), H, I.tok _, ⟨_, rfl⟩, q⟩
  refine PySem.P.mul_str ?_ (fun _ _ => ?_) (fun _ _ => ?_) ?_
  · rw [decide_eq_false (by omega), decide_eq_false (by omega)]
    rfl
  · have e : (2 ^ 63 - 1 : Int) / n ≥ 1000 := by
      by_cases hn : n = 0
      · subst hn
        omega
      · exact Int.le_ediv_of_mul_le (by omega) (by omega)
    omega
  · unfold Builtin.Str.tooLong
    have e : a.length * n.toNat ≤ 1000 * 1000 := Nat.mul_le_mul h2 (by omega)
    have := sizeLine_eq
    first
      | exact decide_eq_false (by omega)
      | simp; omega
  · by_cases c1 : n < 1
    · rw [if_pos c1]
      exact ⟨by decide, fin _ _ _ (by unfold strTimes; rw [if_pos c1])⟩
    · rw [if_neg c1]
      by_cases c2 : (n == 1 || a.length == 0) = true
      · rw [if_pos c2]
        exact fin _ _ s.toks (by unfold strTimes; rw [if_neg c1, if_pos c2])
      · rw [if_neg c2]
        have e : strTimes a n = ⟨(List.replicate n.toNat a.cps).foldl (· ++ ·) #[]⟩ := by unfold strTimes; rw [if_neg c1, if_neg c2]
        exact ⟨by rw [← e]; exact h3, fin _ _ _ e.symm⟩
def dTim : D → D → W D
  | .int i, .int j => fun P _ => (CMulW i j ∨ CMul i j) ∧ P (.int (i * j))
  | .str x, .int j => fun P _ => ((0 ≤ j ∧ j ≤ 1000 ∧ x.length ≤ 1000) ∧ (strTimes x j).length ≤ 16777216) ∧ P (.str (strTimes x j))
  | .lst l, .int j => fun P _ => (-(2 ^ 63) ≤ j ∧ j < 2 ^ 63 ∧ l.length * j.toNat ≤ 16777216) ∧ P (.lst (List.replicate j.toNat l).flatten)
  | _, _ => W.fail
@[simp] theorem dTim_ii (i j : Int) : dTim (.int i) (.int j) = fun P _ => (CMulW i j ∨ CMul i j) ∧ P (.int (i * j)) := rfl
def rTim : R2 := fun x y H Q => ((rI CMulW (fun i j => .int (i * j)) x y H Q ∨ rI CMul (fun i j => .int (i * j)) x y H Q) ∨ rStm x y H Q) ∨ rRep x y H Q
theorem op_tim {X : Cx} : OpR X (binaryOp .Mult) rTim := opr_or (opr_or (opr_or op_mulW op_mul) op_stm) op_rep
theorem reps_rep {X : Cx} {g : Gd} {S : Hp} {l : List D} {vs : List V} (r : Reps X.K X.mg g S l vs) : ∀ n : Nat, Reps X.K X.mg g S (List.replicate n l).flatten (List.replicate n vs).flatten
  | 0 => by
    simp [Reps]
  | n + 1 => by
    rw [List.replicate_succ, List.replicate_succ, List.flatten_cons, List.flatten_cons]
    exact r.app (reps_rep r n)
theorem dtim_ok {X : Cx} {g : Gd} : Op2 X g dTim rTim := fun a b x y B S H P Z Q f rx ry h k => by
  have sl := sizeLine_eq
  unfold dTim at h
  split at h
  · unfold Rep at rx ry
    subst rx ry
    rcases h.1 with z | z
    · exact .inl (.inl (.inl ⟨_, _, rfl, rfl, z, k _ _ S H h.2 (New.rf f.le) (ri _ S)⟩))
    · exact .inl (.inl (.inr ⟨_, _, rfl, rfl, z, k _ _ S H h.2 (New.rf f.le) (ri _ S)⟩))
  · unfold Rep at rx ry
    subst rx ry
    exact .inl (.inr ⟨_, _, rfl, rfl, h.1.1, by rw [sl]; exact h.1.2, k _ _ S H h.2 (New.rf f.le) (rs _ S)⟩)
  · rename_i l j
    unfold Rep at rx ry
    subst ry
    obtain ⟨p, vs, rfl, h2, h3⟩ := rx
    have e1 : H p = some (.lst vs) := (f.le _ _ h2).resolve_right fun z => by cases z.1
    refine .inr ⟨p, j, vs, rfl, rfl, e1, h.1.1, h.1.2.1, by rw [← h3.len, sl]; exact h.1.2.2, fun q hq => ?_⟩
    have n := New.add (o := .lst (List.replicate j.toNat vs).flatten) f.le hq (fun ps z => by cases z)
    exact k _ _ _ _ h.2 n (by unfold Rep; exact ⟨q, _, rfl, upd_same, (reps_rep h3 _).mono n.ss⟩)
  · exact h.elim

/-! ### int(x) of texts too; comb -/
@[simp] def bInt2 : List D → W D := fun as P _ => match as with
  | [.int i] => P (.int i)
  | [.bl k] => P (.int (if k then 1 else 0))
  | [.str x] => match PySem.intText? x with
    | some n => x.length ≤ 640 ∧ P (.int n)
    | none => False
  | _ => False
def rInt2 : List V → Hp → VK → Prop := fun xs H Q => ((∃ i, xs = [.int i] ∧ Q (.int i) H) ∨ ∃ k, xs = [.bl k] ∧ Q (.int (if k then 1 else 0)) H) ∨ ∃ a n, xs = [.str a] ∧ PySem.intText? a = some n ∧ a.length ≤ 640 ∧ Q (.int n) H
theorem call_int2 {X : Cx} : CallR X (.type "int") rInt2 := callr_or call_int1 call_int_str
theorem bint2_ok {X : Cx} {g : Gd} : OpA X g bInt2 rInt2 := fun as xs B S H P Z Q f r h k => by
  unfold bInt2 at h
  split at h
  · obtain ⟨x, rfl, rx⟩ := rep1 r
    unfold Rep at rx
    subst rx
    exact .inl (.inl ⟨_, rfl, k _ _ S H h (New.rf f.le) (ri _ S)⟩)
  · obtain ⟨x, rfl, rx⟩ := rep1 r
    unfold Rep at rx
    subst rx
    exact .inl (.inr ⟨_, rfl, k _ _ S H h (New.rf f.le) (ri _ S)⟩)
  · split at h
    · rename_i n e
      obtain ⟨x, rfl, rx⟩ := rep1 r
      unfold Rep at rx
      subst rx
      exact .inr ⟨_, n, rfl, e, h.1, k _ _ S H h.2 (New.rf f.le) (ri _ S)⟩
    · exact h.elim
  · exact h.elim
def CCmb (a b : Int) : Prop := 0 ≤ b ∧ b ≤ a ∧ b ≤ 9000 ∧ (PySem.W.mcComb a b).natAbs.log2 < 1000000
def rCmb : List V → Hp → VK → Prop := fun xs H Q => ∃ a b, xs = [.int a, .int b] ∧ CCmb a b ∧ Q (.int (PySem.W.mcComb a b)) H
theorem call_cmb {X : Cx} : CallR X (.builtin "math.comb") rCmb := by
  intro pins s σ H xs us Q I r h
  obtain ⟨a, b, rfl, ⟨h0, h1, h2, h3⟩, q⟩ := h
  obtain ⟨u1, u2, rfl, r1, r2⟩ := vals2 r
  obtain ⟨t, rfl⟩ := (show ∃ t, u1 = Value.int a t from r1)
  obtain ⟨t2, rfl⟩ := (show ∃ t, u2 = Value.int b t from r2)
  have e := PySem.W.mcComb_at h0 h1 rfl
  have hm : min b (a - b) ≤ 9000 := Int.le_trans (Int.min_le_left _ _) h2
  have gv := PySem.W.mc_run_comb a t b t2 (by omega) (by omega) (by omega) (by unfold Builtin.Math.maxSsize; omega) (by unfold Builtin.Math.manyFactors; omega) (by omega) (by rw [← e, bitsLine_eq]; omega)
  rw [← e] at gv
  exact call_function_meets PySem.W.MGF.kind_comb PySem.W.MGF.plain_comb PySem.W.MGF.entry_comb (PySem.W.MGF.args_comb _ _) gv.meets ⟨.int _, H, I.tok _, ⟨_, rfl⟩, q⟩
@[simp] def bCmb : List D → W D := fun as P _ => match as with
  | [.int a, .int b] => CCmb a b ∧ P (.int (PySem.W.mcComb a b))
  | _ => False
theorem bcmb_ok {X : Cx} {g : Gd} : OpA X g bCmb rCmb := fun as xs B S H P Z Q f r h k => by
  unfold bCmb at h
  split at h
  · obtain ⟨x, y, rfl, rx, ry⟩ := rep2 r
    unfold Rep at rx ry
    subst rx ry
    exact ⟨_, _, rfl, h.1, k _ _ S H h.2 (New.rf f.le) (ri _ S)⟩
  · exact h.elim
section
variable {X : Cx} {g : Gd} {B : Hp × Hp} {E : XK} {a : Expr} {es : List Expr} {ml : Ev → W (List D)} {pos : Pos}
/-- a module's name for a built-in function -/
theorem de_bf {x : Str} {p : Pos} {id : String} {f : List D → W D} {r : List V → Hp → VK → Prop} (hc : CallR X (.builtin id) r) (hf : OpA X g f r) (hg : Gl X x) (hm : X.mg x = some (.builtin id)) (ha : DAr X g B E (a :: es) ml) (hdb : (x == ("__debug__" : Str)) = false := by decide)
    (hst : noStar (a :: es) = true := by rfl) : DE X g B E (.Call (.Name x p) (a :: es) [] pos) (eA f ml) := by
  refine pe_imp (pe_callBfun hc hg hm ha hdb (st_cons hst) (st_any hst)) fun σ H Q h => ?_
  obtain ⟨env, S, P, Z, ok, hm, k, kx⟩ := h
  exact ⟨env, S, _, Z, ok, hm, fun ds vs S' H' p ok' ex r => hf ds vs B S' H' P Z Q ok'.frm r p fun d v S3 H3 p3 n r3 => k d v S3 H3 p3 (ok'.new n) (ex.tr n.ss) r3, kx⟩
end
end DL

set_option Elab.async false
set_option linter.all false
set_option maxRecDepth 100000
set_option maxHeartbeats 2000000
/-! DV: the draws: reading and writing the dict of the cells. -/
namespace DL
open PySem PySem.Spec PyProof.Rows L2

theorem tabs_upd {T : List (Addr × Str)} {H : Hp} {a : Addr} {o u : HO} (t : LamX.Tabs T H) (h : H a = some o) (nt : ∀ ps, o ≠ .tbl ps) (nc : ∀ φ, o ≠ .ext φ) : LamX.Tabs T (upd H a u) := fun p hp => by
  obtain ⟨ps, h1, h2, h3⟩ := t p hp
  refine ⟨ps, by rw [upd_ne (fun q => by rw [q, h] at h1; exact nt ps (Option.some.inj h1))]; exact h1, h2, fun pos cv hc => ?_⟩
  obtain ⟨c, e1, e2⟩ := h3 pos cv hc
  refine ⟨c, e1, ?_⟩
  rw [upd_ne (fun q => ?_)]
  · exact e2
  · rw [q, h] at e2
    have z := Option.some.inj e2
    unfold LamX.CodeO at z
    exact nc _ z
/-- an object of the region is written -/
theorem Frm.reg {g : Gd} {S0 H0 S H : Hp} {a : Addr} {o u : HO} (f : Frm g S0 H0 S H) (ha : a ∈ g.R) (h : H a = some o) (nt : ∀ ps, o ≠ .tbl ps) (nc : ∀ φ, o ≠ .ext φ) (dw : g.dw (upd H a u)) : Frm g S0 H0 S (upd H a u) where
  ss := f.ss
  le := fun b w z => by
    rw [upd_ne (fun q => by rw [q, f.rs a ha] at z; cases z)]
    exact f.le b w z
  fr := fun b w h1 h2 h3 => by
    rw [upd_ne (fun q => h2 (by rw [q]; exact ha))]
    exact f.fr b w h1 h2 h3
  al := fun b z => by
    by_cases q : b = a
    · rw [q, upd_same] at z
      cases z
    · rw [upd_ne q] at z
      exact f.al b z
  nw := f.nw
  dw := dw
  rs := f.rs
  tb := tabs_upd f.tb h nt nc
  nt := f.nt
  kn := f.kn
theorem Ok.reg {K : PySem.W.Frag} {mg : Str → Option Value} {g : Gd} {B : Hp × Hp} {env : Ev} {S : Hp} {σ : L2.St} {H : Hp} {a : Addr} {o u : HO} (k : Ok K mg g B env S σ H) (ha : a ∈ g.R) (h : H a = some o) (nt : ∀ ps, o ≠ .tbl ps) (nc : ∀ φ, o ≠ .ext φ) (dw : g.dw (upd H a u)) :
    Ok K mg g B env S σ (upd H a u) where
  frm := k.frm.reg ha h nt nc dw
  len := k.len
  slots := fun i s q => by
    have z := k.slots i s q
    cases s with
    | un => trivial
    | sh d => exact z
    | own l =>
      obtain ⟨b, vs, h1, h2, h3, h4, h5, h6⟩ := z
      refine ⟨b, vs, h1, h2, h3, h4, ?_, h6⟩
      rw [upd_ne (fun q => h4 (by rw [q]; exact ha))]
      exact h5
  apart := k.apart

section
variable {X : Cx} {g : Gd} {B : Hp × Hp} {E : XK} {T : List (Addr × Str)} {n i : Nat} {x : Str} {px pc pos pos' apos cpos pa p2 p3 p4 p5 p6 qx qc q2 : Pos} {j j2 j3 : Nat}
/-- a whole number that is at least 0, any -/
@[simp] def eDi (i : Nat) : EM := fun env P _ => env[i]? = some (.sh .drw) ∧ ∀ t : Int, 0 ≤ t → P (.int t)
/-- a list of whole numbers that are at least 0 -/
@[simp] def eDc (i : Nat) : EM := fun env P _ => env[i]? = some (.sh .drw) ∧ ∀ cs : List Int, cs.length ≤ 63 → (∀ z ∈ cs, 0 ≤ z) → P (.lst (cs.map D.int))
theorem drw_slot {env : Ev} {S : Hp} {σ : L2.St} {H : Hp} (ok : Ok X.K X.mg g B env S σ H) (e : env[i]? = some (.sh .drw)) : ∃ (d b c : Addr) (cells : List Int), σ[i]? = some (some (.ref d)) ∧ g.R = [d, b] ∧ g.ks c = some (.lst (cells.map V.int)) ∧ cells.length ≤ 63 ∧ (∀ z ∈ cells, 0 ≤ z) ∧
    (∀ H, g.dw H ↔ DrwAt d b c H) ∧ DrwAt d b c H := by
  obtain ⟨v, hs, rv⟩ := ok.slots i _ e
  unfold Rep at rv
  obtain ⟨rfl, d, b, c, cells, h1, h2, h3, h4, h5, h6⟩ := rv
  rw [h1] at hs
  exact ⟨d, b, c, cells, hs, h2, h3, h4, h5, h6, (h6 H).mp ok.frm.dw⟩
theorem ints_rep {S : Hp} : ∀ l : List Int, Reps X.K X.mg g S (l.map D.int) (l.map V.int)
  | [] => Reps.nil
  | i :: l => Reps.cons (ri i S) (ints_rep l)
theorem de_dint {key : Str} (hk : key = "rest" ∨ key = "turn") (c : CxK T n X g E) (hN : X.N[i]? = some x := by rfl) (hv : Vis X.env.scope x := by first | exact Or.inl rfl | exact Or.inr (Or.inl rfl) | exact Or.inr (Or.inr rfl)) (hd : (x == ("__debug__" : Str)) = false := by decide)
    (hcd : (x == ("__classdict__" : Str)) = false := by decide) (hs : NoSl (.Constant (.str key) j pc) := by intro _ _; rfl) : DE X g B E (.Subscript (.Name x px) (.Constant (.str key) j pc) pos) (eDi i) := by
  refine pe_imp (pe_dget c.un (pe_var (i := i) hN hv hd hcd) pe_str hs) fun σ H Q h => ?_
  obtain ⟨env, S, P, Z, ok, ⟨e, hm⟩, k, kx⟩ := h
  obtain ⟨d, b, cc, cells, hsl, hR, hc, hl, hn, hdw, big, rest, turn, h1, h2, h3, h4, h5, h6⟩ := drw_slot ok e
  rcases hk with rfl | rfl
  · refine ⟨.ref d, hsl, d, .int rest, rfl, ?_, k (.int rest) _ S H (hm rest h5) ok (Ex.rf _) (ri _ _)⟩
    exact DGet.k (k := .inr "rest") h1
  · refine ⟨.ref d, hsl, d, .int turn, rfl, ?_, k (.int turn) _ S H (hm turn h6) ok (Ex.rf _) (ri _ _)⟩
    exact DGet.k (k := .inr "turn") h1
theorem de_dcells (c : CxK T n X g E) (hN : X.N[i]? = some x := by rfl) (hv : Vis X.env.scope x := by first | exact Or.inl rfl | exact Or.inr (Or.inl rfl) | exact Or.inr (Or.inr rfl)) (hd : (x == ("__debug__" : Str)) = false := by decide)
    (hcd : (x == ("__classdict__" : Str)) = false := by decide) (hs : NoSl (.Constant (.str "cells") j pc) := by intro _ _; rfl) : DE X g B E (.Subscript (.Name x px) (.Constant (.str "cells") j pc) pos) (eDc i) := by
  refine pe_imp (pe_dget c.un (pe_var (i := i) hN hv hd hcd) pe_str hs) fun σ H Q h => ?_
  obtain ⟨env, S, P, Z, ok, ⟨e, hm⟩, k, kx⟩ := h
  obtain ⟨d, b, cc, cells, hsl, hR, hc, hl, hn, hdw, big, rest, turn, h1, h2, h3, h4, h5, h6⟩ := drw_slot ok e
  refine ⟨.ref d, hsl, d, .ref cc, rfl, DGet.k (k := .inr "cells") h1, k (.lst (cells.map D.int)) _ S H (hm cells hl hn) ok (Ex.rf _) ?_⟩
  unfold Rep
  exact ⟨cc, _, rfl, ok.frm.kn _ _ hc, ints_rep cells⟩
/-- draw['rest'] = e, draw['turn'] = e -/
@[simp] def sDi (i : Nat) (ma : EM) : SM := fun env k => ma env (fun d => match d with
  | .int z => 0 ≤ z ∧ env[i]? = some (.sh .drw) ∧ k.nx env
  | _ => False) k.er
theorem ds_dint {key : Str} {value : Expr} {ma : EM} (hk : key = "rest" ∨ key = "turn") (c : CxK T n X g E) (ha : DE X g B E value ma) (hN : X.N[i]? = some x := by rfl) (hv : Vis X.env.scope x := by first | exact Or.inl rfl | exact Or.inr (Or.inl rfl) | exact Or.inr (Or.inr rfl))
    (hd : (x == ("__debug__" : Str)) = false := by decide) (hcd : (x == ("__classdict__" : Str)) = false := by decide) (hs : swapsWith value (some (.Subscript (.Name x px) (.Constant (.str key) j pc) pos')) pos.line X.env = pure false := by rfl) :
    DS X g B E (.Assign [.Subscript (.Name x px) (.Constant (.str key) j pc) pos'] value pos) (sDi i ma) := by
  refine ps_imp (ps_dput c.un (pe_var (i := i) hN hv hd hcd) pe_str ha hs) fun De σ H h => ?_
  obtain ⟨env, S, k, ok, hm, kk⟩ := h
  refine ⟨env, S, _, _, ok, hm, fun d v S' H' q ok' ex r => ?_, kk.er⟩
  cases d with
  | int z =>
    unfold Rep at r
    subst r
    obtain ⟨h0, e, q⟩ := q
    obtain ⟨d, b, cc, cells, hsl, hR, hc, hl, hn, hdw, big, rest, turn, h1, h2, h3, h4, h5, h6⟩ := drw_slot ok' e
    have hne : b ≠ d := fun w => by
      rw [w, h1] at h2
      cases h2
    rcases hk with rfl | rfl
    · refine ⟨.ref d, hsl, d, _, rfl, DPut.k (k := .inr "rest") h1 (by rw [sizeLine_eq]; show 4 < 16777216; omega), ?_⟩
      refine kk.nx env S' σ _ q (ok'.reg (by rw [hR]; simp) h1 (fun ps w => by cases w) (fun φ w => by cases w) ((hdw _).mpr ⟨big, z, turn, upd_same, ?_, h3, h4, h0, h6⟩)) ex
      rw [upd_ne hne]
      exact h2
    · refine ⟨.ref d, hsl, d, _, rfl, DPut.k (k := .inr "turn") h1 (by rw [sizeLine_eq]; show 4 < 16777216; omega), ?_⟩
      refine kk.nx env S' σ _ q (ok'.reg (by rw [hR]; simp) h1 (fun ps w => by cases w) (fun φ w => by cases w) ((hdw _).mpr ⟨big, rest, z, upd_same, ?_, h3, h4, h5, h0⟩)) ex
      rw [upd_ne hne]
      exact h2
  | _ => exact q.elim

theorem dp_ints {K : PySem.W.Frag} {H : Hp} : ∀ l : List Int, DpAll K H (l.map V.int) (l.map PyData.int)
  | [] => .nil
  | i :: l => .cons (.int i) (dp_ints l)
theorem lay_ints : ∀ l : List Int, PyData.canLayAll0 (l.map PyData.int) = true
  | [] => rfl
  | i :: l => by
    rw [List.map_cons]
    unfold PyData.canLayAll0
    rw [lay_ints l]
    rfl
theorem deep_ints : ∀ l : List Int, PyData.depthAll (l.map PyData.int) = 0
  | [] => rfl
  | i :: l => by
    rw [List.map_cons]
    unfold PyData.depthAll
    rw [deep_ints l]
    rfl
/-- draw['large'].pop(0) if draw['large'] != [] else mixed(draw) -/
theorem de_dnext {y : Str} {st : Stmt} {ps : List Str} {k : Nat} (c : CxK T n X g E) (hk : k ≤ n) (Fm : FnD X.prog X.w X.K X.mg X.base T k y st ps (fun ds P _ => ds = [.drw] ∧ ∀ z : Int, 0 ≤ z → P (.int z))) (hgy : Gl X y) (hps : ps.length = 1) (hN : X.N[i]? = some x := by rfl)
    (hv : Vis X.env.scope x := by first | exact Or.inl rfl | exact Or.inr (Or.inl rfl) | exact Or.inr (Or.inr rfl)) (hd : (x == ("__debug__" : Str)) = false := by decide) (hcd : (x == ("__classdict__" : Str)) = false := by decide) (hdy : (y == ("__debug__" : Str)) = false := by decide)
    (hm : behindInMarks .NotEq (.List [] p2) = false := by first | exact nomark _ (by decide) (by decide) | rfl) (hs : NoSl (.Constant (.str "large") j pc) := by intro _ _; rfl) (hs2 : NoSl (.Constant (.str "large") j3 qc) := by intro _ _; rfl)
    (hb : attributeBase (.Subscript (.Name x qx) (.Constant (.str "large") j3 qc) q2) "pop" X.env (eval (.Subscript (.Name x qx) (.Constant (.str "large") j3 qc) q2) X.env) = eval (.Subscript (.Name x qx) (.Constant (.str "large") j3 qc) q2) X.env := by rfl)
    (hline : (apos.endLine == cpos.line) = true := by rfl) :
    DE X g B E (.IfExp (.Compare (.Subscript (.Name x px) (.Constant (.str "large") j pc) pos') [.NotEq] [.List [] p2] p3) (.Call (.Attribute (.Subscript (.Name x qx) (.Constant (.str "large") j3 qc) q2) "pop" apos) [.Constant (.int 0) j2 p4] [] cpos) (.Call (.Name y pa) [.Name x p5] [] p6) pos) (eDi i) := by
  have hu : X.A.units + 64 < cLine := by
    have := c.room.un
    omega
  have hcall := de_call (B := B) (p := pa) (pos := p6) Fm c hk hgy (da_cons (de_var (i := i) (pos := p5) hN hv hd hcd) da_nil rfl) hdy
  have hlg := pe_dget (pos := pos') c.un (pe_var (X := X) (pos := px) (i := i) hN hv hd hcd) (pe_str (X := X) (x := "large") (j := j) (pos := pc)) hs
  have hlg2 := pe_dget (pos := q2) c.un (pe_var (X := X) (pos := qx) (i := i) hN hv hd hcd) (pe_str (X := X) (x := "large") (j := j3) (pos := qc)) hs2
  refine pe_imp (pe_ifExp (pt_cmpR (op_neD hu) hlg (pe_lst pa_nil) hm)
    (pe_bm (T := "list") (id := "list.pop") PySem.F.plainAttrs_list PySem.F.slot_list_pop PySem.F.type_list_pop mt_popAt hlg2 (pa_cons pe_int pa_nil rfl) hb (by rfl) hline (by rfl) (by rfl)) hcall) fun σ H Q h => ?_
  obtain ⟨env, S, P, Z, ok, ⟨e, hq⟩, kq, kx⟩ := h
  obtain ⟨d, b, cc, cells, hsl, hR, hc, hl, hn, hdw, big, rest, turn, h1, h2, h3, h4, h5, h6⟩ := drw_slot ok e
  refine ⟨.ref d, hsl, d, .ref b, rfl, DGet.k (k := .inr "large") h1, by rw [sizeLine_eq]; show 0 ≤ 16777216; omega, fun p hp => ?_⟩
  have nw := New.hid (o := .lst []) ok.frm.le hp
  have ok1 := ok.new nw
  refine ⟨.list (big.map .int), .list [], .lst (SqL.of (nw.hh _ _ h2)) (dp_ints big), .lst (SqL.of upd_same) .nil, ?_, by rfl, _, rfl, ?_⟩
  · unfold SeqAt.shaped PyData.canLay0 PyData.depth
    rw [lay_ints, deep_ints]
    rfl
  cases big with
  | nil =>
    show (if (!PyData.eqv (.list []) (.list [])) = true then _ else _)
    rw [if_neg (by decide)]
    exact ⟨env, S, P, Z, ok1, by
      unfold eF aCons eVar aNil
      rw [e]
      exact ⟨by rw [hps]; rfl, rfl, hq⟩, kq, kx⟩
  | cons z big =>
    show (if (!PyData.eqv (.list (.int z :: _)) (.list [])) = true then _ else _)
    rw [if_pos (by rfl)]
    have hz : 0 ≤ z := h4 z List.mem_cons_self
    refine ⟨.ref d, hsl, d, .ref b, rfl, DGet.k (k := .inr "large") (nw.hh _ _ h1), .inl ⟨rfl, _, SqL.of (nw.hh _ _ h2)⟩, b, _, 0, 0, .int z, rfl, rfl, nw.hh _ _ h2, by decide, by decide, ?_, rfl, ?_⟩
    · unfold seqIndex?
      simp
    · refine kq (.int z) _ S _ (hq z hz) (ok1.reg (by rw [hR]; simp) (nw.hh _ _ h2) (fun ps w => by cases w) (fun φ w => by cases w) ((hdw _).mpr ⟨big, rest, turn, ?_, upd_same, ?_, fun w hw => h4 w (List.mem_cons_of_mem _ hw), h5, h6⟩)) (Ex.rf _) (ri _ _)
      · rw [upd_ne (fun w => by rw [w, h2] at h1; cases h1)]
        exact nw.hh _ _ h1
      · rw [List.length_cons] at h3
        omega
end
end DL

set_option Elab.async false
set_option linter.all false
set_option maxRecDepth 100000
set_option maxHeartbeats 2000000
/-! DW: rules in the form that the printed derivations use. -/
namespace DL
open PySem PySem.Spec PyProof.Rows L2

/-- a def of the module, as it stands behind the top -/
structure DefF (K : PySem.W.Frag) (mg : Str → Option Value) (x : Str) (st : Stmt) : Prop where
  ex : ∃ f fd, mg x = some (.ref f) ∧ Fun K x x st f fd
theorem def_mk {K : PySem.W.Frag} {mg : Str → Option Value} {h : Heap} {x : Str} {st : Stmt} {f : Addr} {oc : Value} {od an : Option Addr} {osl : Array (Option Value)} {kV doc pm cdv ct : Value} (X : K.In h) (G : h.Ns mainGlobals mg) (a : PySem.W.nsIn K mainGlobals x = some (some (.ref f)))
    (l : K.lookup f = some ⟨oc, od, .func (PySem.W.fnOf x x (defArgs st) (defBody st) (defScope st) .none kV doc pm an cdv ct), osl⟩) (c : PySem.W.codeIn K cdv x = true) (k : PySem.W.keepIn K (.ref f) = true) : DefF K mg x st := ⟨f, _, PySem.W.mg_of X G a, fun_mk l c k⟩
section
variable {P : Program} {w : World} {K : PySem.W.Frag} {mg : Str → Option Value} {base : Heap} {T : List (Addr × Str)}
/-- a def whose body keeps the computation m does G, where G's wish is m's -/
theorem fnD_mk {x : Str} {st : Stmt} {N ps : List Str} {k : Nat} {m : SM} {G : List D → W D} (d : DefF K mg x st) (Sc : FnScope N ps (defScope st))
    (hb : ∀ (kV doc pm : Value) (an : Option Addr) (cdv ct : Value) (us : List Value), us.length = ps.length → bindArgs (PySem.W.fnOf x x (defArgs st) (defBody st) (defScope st) .none kV doc pm an cdv ct) ⟨us, []⟩ = pure (ps.zip us))
    (hbody : ∀ (f : Addr) (cdv : Value) (A : Around) (outer : List Env) (s : Shared) (H : Hp) (E : XK) (g : Gd) (B : Hp × Hp), CxK T k (cxOf (L2.CX P w) P w K mg base N x (defScope st) f cdv A outer s H E) g E →
      DSs (cxOf (L2.CX P w) P w K mg base N x (defScope st) f cdv A outer s H E) g B E (defBody st) m) (i : ∀ ds P Z, G ds P Z → fnW N.length ps.length m ds P Z) : FnD P w K mg base T (k + 1) x st ps G := by
  obtain ⟨f, fd, h1, h2⟩ := d.ex
  exact (fnD_of h2 Sc h1 (h2.binds hb) (hbody f)).imp i
end
section
variable {X : Cx} {g : Gd} {B : Hp × Hp} {E : XK} {T : List (Addr × Str)} {n : Nat} {a b c : Expr} {es : List Expr} {ma mb mc : EM} {ml : Ev → W (List D)} {p pos : Pos}
theorem CxK.u64 (c : CxK T n X g E) : X.A.units + 64 < cLine := by
  have := c.room.un
  omega
theorem CxK.u65 (c : CxK T n X g E) : X.A.units + 65 < cLine := by
  have := c.room.un
  omega
theorem CxK.u200 (c : CxK T n X g E) : X.A.units + 200 < cLine := by
  have := c.room.un
  omega
theorem CxK.lam {T : List (Addr × Str)} {n : Nat} {X : Cx} {g : Gd} {E : XK} (c : CxK T n X g E) : CxK T n X g E := c
/-- a def, a class of the module as a value -/
theorem dv_fn {x : Str} {st : Stmt} (d : DefF X.K X.mg x st) (hg : Gl X x) (hd : (x == ("__debug__" : Str)) = false := by decide) : DE X g B E (.Name x pos) (eC (.fn x)) := by
  obtain ⟨f, fd, h1, h2⟩ := d.ex
  exact de_fn hg h1 hd
theorem dv_cls {x : Str} {C : Addr} (hm : X.mg x = some (.ref C)) (hg : Gl X x) (hd : (x == ("__debug__" : Str)) = false := by decide) : DE X g B E (.Name x pos) (eC (.fn x)) := de_fn hg hm hd
/-- a built-in type as a value -/
theorem dv_ty {x : Str} {t : String} (hm : X.mg x = none) (hg : Gl X x) (hv : bootBuiltins x = some (.type t)) (hn : x ≠ "__name__" := by decide) (hd : (x == ("__debug__" : Str)) = false := by decide) : DE X g B E (.Name x pos) (eC (.ty t)) :=
  de_c (pe_bltn (v := .ty t) hg hm hv rfl hn hd) fun S => by unfold Rep; rfl
theorem boot1 : bootBuiltins "int" = some (.type "int") := by decide +kernel
theorem boot2 : bootBuiltins "bool" = some (.type "bool") := by decide +kernel
theorem boot3 : bootBuiltins "tuple" = some (.type "tuple") := by decide +kernel
theorem boot4 : bootBuiltins "list" = some (.type "list") := by decide +kernel
theorem boot5 : bootBuiltins "str" = some (.type "str") := by decide +kernel
theorem boot6 : bootBuiltins "dict" = some (.type "dict") := by decide +kernel
theorem boot7 : bootBuiltins "len" = some (.builtin "len") := by decide +kernel
theorem boot8 : bootBuiltins "sum" = some (.builtin "sum") := by decide +kernel
theorem boot9 : bootBuiltins "any" = some (.builtin "any") := by decide +kernel
theorem boot10 : bootBuiltins "all" = some (.builtin "all") := by decide +kernel
theorem boot11 : bootBuiltins "min" = some (.builtin "min") := by decide +kernel
theorem boot12 : bootBuiltins "max" = some (.builtin "max") := by decide +kernel
theorem boot13 : bootBuiltins "abs" = some (.builtin "abs") := by decide +kernel
theorem boot14 : bootBuiltins "repr" = some (.builtin "repr") := by decide +kernel
theorem boot15 : bootBuiltins "isinstance" = some (.builtin "isinstance") := by decide +kernel
theorem db_len (hm : X.mg "len" = none) (hg : Gl X "len") (ha : DAr X g B E (a :: es) ml) (hst : noStar (a :: es) = true := by rfl) : DE X g B E (.Call (.Name "len" p) (a :: es) [] pos) (eA bLen ml) :=
  de_b call_len blen_ok hg hm boot7 ha (hst := hst)
theorem db_sum (c : CxK T n X g E) (hm : X.mg "sum" = none) (hg : Gl X "sum") (ha : DAr X g B E (a :: es) ml) (hst : noStar (a :: es) = true := by rfl) : DE X g B E (.Call (.Name "sum" p) (a :: es) [] pos) (eA bSum ml) :=
  de_b (cr_sum c.calm) bsum_ok hg hm boot8 ha (hst := hst)
theorem db_any (c : CxK T n X g E) (hm : X.mg "any" = none) (hg : Gl X "any") (ha : DAr X g B E (a :: es) ml) (hst : noStar (a :: es) = true := by rfl) : DE X g B E (.Call (.Name "any" p) (a :: es) [] pos) (eA bAny ml) :=
  de_b (cr_any c.calm) bany_ok hg hm boot9 ha (hst := hst)
theorem db_all (c : CxK T n X g E) (hm : X.mg "all" = none) (hg : Gl X "all") (ha : DAr X g B E (a :: es) ml) (hst : noStar (a :: es) = true := by rfl) : DE X g B E (.Call (.Name "all" p) (a :: es) [] pos) (eA bAll ml) :=
  de_b (cr_all c.calm) ball_ok hg hm boot10 ha (hst := hst)
theorem db_min (c : CxK T n X g E) (hm : X.mg "min" = none) (hg : Gl X "min") (ha : DAr X g B E (a :: es) ml) (hst : noStar (a :: es) = true := by rfl) : DE X g B E (.Call (.Name "min" p) (a :: es) [] pos) (eA bMin2 ml) :=
  de_b (call_min2 c.calm) bmin2_ok hg hm boot11 ha (hst := hst)
theorem db_max (c : CxK T n X g E) (hm : X.mg "max" = none) (hg : Gl X "max") (ha : DAr X g B E (a :: es) ml) (hst : noStar (a :: es) = true := by rfl) : DE X g B E (.Call (.Name "max" p) (a :: es) [] pos) (eA bMax2 ml) :=
  de_b (call_max2 c.calm) bmax2_ok hg hm boot12 ha (hst := hst)
theorem db_abs (hm : X.mg "abs" = none) (hg : Gl X "abs") (ha : DAr X g B E (a :: es) ml) (hst : noStar (a :: es) = true := by rfl) : DE X g B E (.Call (.Name "abs" p) (a :: es) [] pos) (eA bAbs ml) :=
  de_b call_abs babs_ok hg hm boot13 ha (hst := hst)
theorem db_repr (c : CxK T n X g E) (hm : X.mg "repr" = none) (hg : Gl X "repr") (ha : DAr X g B E (a :: es) ml) (hst : noStar (a :: es) = true := by rfl) : DE X g B E (.Call (.Name "repr" p) (a :: es) [] pos) (eA bRpr ml) :=
  de_b (call_rpr c.gd c.u200) brpr_ok hg hm boot14 ha (hst := hst)
theorem db_isi {ko : String → Str → Option Bool} {ke : Str → Str → Option Bool} (hf : OpA X g (bIsi ko ke) (fun xs H Q => rIsi X.K xs H Q ∨ rIsX X.K xs H Q)) (hm : X.mg "isinstance" = none) (hg : Gl X "isinstance") (ha : DAr X g B E (a :: es) ml)
    (hst : noStar (a :: es) = true := by rfl) : DE X g B E (.Call (.Name "isinstance" p) (a :: es) [] pos) (eA (bIsi ko ke) ml) := de_b op_isi hf hg hm boot15 ha (hst := hst)
theorem db_int (hm : X.mg "int" = none) (hg : Gl X "int") (ha : DAr X g B E (a :: es) ml) (hst : noStar (a :: es) = true := by rfl) : DE X g B E (.Call (.Name "int" p) (a :: es) [] pos) (eA bInt2 ml) :=
  de_ty call_int2 bint2_ok hg hm boot1 ha (hst := hst)
theorem db_tuple (hm : X.mg "tuple" = none) (hg : Gl X "tuple") (ha : DAr X g B E (a :: es) ml) (hst : noStar (a :: es) = true := by rfl) : DE X g B E (.Call (.Name "tuple" p) (a :: es) [] pos) (eA bTup ml) :=
  de_ty call_tuple_of btup_ok hg hm boot3 ha (hst := hst)
theorem db_list (hm : X.mg "list" = none) (hg : Gl X "list") (ha : DAr X g B E (a :: es) ml) (hst : noStar (a :: es) = true := by rfl) : DE X g B E (.Call (.Name "list" p) (a :: es) [] pos) (eA bLst ml) :=
  de_ty call_list_of blst_ok hg hm boot4 ha (hst := hst)
theorem de_tim (ha : DE X g B E a ma) (hb : DE X g B E b mb) : DE X g B E (.BinOp a .Mult b pos) (e2 dTim ma mb) := de_op op_tim dtim_ok ha hb
theorem dc_lt (ha : DE X g B E a ma) (hb : DE X g B E b mb) (hm : behindInMarks .Lt b = false := by first | exact nomark _ (by decide) (by decide) | rfl) : DE X g B E (.Compare a [.Lt] [b] pos) (e2 dLt ma mb) := de_cmp op_lt dlt_ok ha hb hm
theorem dc_le (ha : DE X g B E a ma) (hb : DE X g B E b mb) (hm : behindInMarks .LtE b = false := by first | exact nomark _ (by decide) (by decide) | rfl) : DE X g B E (.Compare a [.LtE] [b] pos) (e2 dLe ma mb) := de_cmp op_le dle_ok ha hb hm
theorem dc_gt (ha : DE X g B E a ma) (hb : DE X g B E b mb) (hm : behindInMarks .Gt b = false := by first | exact nomark _ (by decide) (by decide) | rfl) : DE X g B E (.Compare a [.Gt] [b] pos) (e2 dGt ma mb) := de_cmp op_gt dgt_ok ha hb hm
theorem dc_ge (ha : DE X g B E a ma) (hb : DE X g B E b mb) (hm : behindInMarks .GtE b = false := by first | exact nomark _ (by decide) (by decide) | rfl) : DE X g B E (.Compare a [.GtE] [b] pos) (e2 dGe ma mb) := de_cmp op_ge dge_ok ha hb hm
theorem dc_eq (c : CxK T n X g E) (ha : DE X g B E a ma) (hb : DE X g B E b mb) (hm : behindInMarks .Eq b = false := by first | exact nomark _ (by decide) (by decide) | rfl) : DE X g B E (.Compare a [.Eq] [b] pos) (e2 dEq ma mb) := de_cmp (op_eqE c.u64) deq_ok ha hb hm
theorem dc_ne (c : CxK T n X g E) (ha : DE X g B E a ma) (hb : DE X g B E b mb) (hm : behindInMarks .NotEq b = false := by first | exact nomark _ (by decide) (by decide) | rfl) : DE X g B E (.Compare a [.NotEq] [b] pos) (e2 dNe ma mb) := de_cmp (op_neE c.u64) dne_ok ha hb hm
theorem dc_is (ha : DE X g B E a ma) (hb : DE X g B E b mb) (hm : behindInMarks .Is b = false := by first | exact nomark _ (by decide) (by decide) | rfl) : DE X g B E (.Compare a [.Is] [b] pos) (e2 dIs ma mb) := de_cmp op_isN dis_ok ha hb hm
theorem dc_ns (ha : DE X g B E a ma) (hb : DE X g B E b mb) (hm : behindInMarks .IsNot b = false := by first | exact nomark _ (by decide) (by decide) | rfl) : DE X g B E (.Compare a [.IsNot] [b] pos) (e2 dNs ma mb) := de_cmp op_notN dns_ok ha hb hm
theorem dc_in (c : CxK T n X g E) (ha : DE X g B E a ma) (hb : DE X g B E b mb) (hm : behindInMarks .In b = false := by first | exact nomark _ (by decide) (by decide) | rfl) : DE X g B E (.Compare a [.In] [b] pos) (e2 dIn ma mb) := de_cmp (op_inD c.u65) din_ok ha hb hm
theorem dc_ni (c : CxK T n X g E) (ha : DE X g B E a ma) (hb : DE X g B E b mb) (hm : behindInMarks .NotIn b = false := by first | exact nomark _ (by decide) (by decide) | rfl) : DE X g B E (.Compare a [.NotIn] [b] pos) (e2 dNi ma mb) := de_cmp (op_notInD c.u65) dni_ok ha hb hm
theorem dt_lt (ha : DE X g B E a ma) (hb : DE X g B E b mb) (hm : behindInMarks .Lt b = false := by first | exact nomark _ (by decide) (by decide) | rfl) : DT X g B E (.Compare a [.Lt] [b] pos) (tBo (e2 dLt ma mb)) := dt_cmp op_lt dlt_ok ha hb hm
theorem dt_le (ha : DE X g B E a ma) (hb : DE X g B E b mb) (hm : behindInMarks .LtE b = false := by first | exact nomark _ (by decide) (by decide) | rfl) : DT X g B E (.Compare a [.LtE] [b] pos) (tBo (e2 dLe ma mb)) := dt_cmp op_le dle_ok ha hb hm
theorem dt_gt (ha : DE X g B E a ma) (hb : DE X g B E b mb) (hm : behindInMarks .Gt b = false := by first | exact nomark _ (by decide) (by decide) | rfl) : DT X g B E (.Compare a [.Gt] [b] pos) (tBo (e2 dGt ma mb)) := dt_cmp op_gt dgt_ok ha hb hm
theorem dt_ge (ha : DE X g B E a ma) (hb : DE X g B E b mb) (hm : behindInMarks .GtE b = false := by first | exact nomark _ (by decide) (by decide) | rfl) : DT X g B E (.Compare a [.GtE] [b] pos) (tBo (e2 dGe ma mb)) := dt_cmp op_ge dge_ok ha hb hm
theorem dt_eq (c : CxK T n X g E) (ha : DE X g B E a ma) (hb : DE X g B E b mb) (hm : behindInMarks .Eq b = false := by first | exact nomark _ (by decide) (by decide) | rfl) : DT X g B E (.Compare a [.Eq] [b] pos) (tBo (e2 dEq ma mb)) := dt_cmp (op_eqE c.u64) deq_ok ha hb hm
theorem dt_ne (c : CxK T n X g E) (ha : DE X g B E a ma) (hb : DE X g B E b mb) (hm : behindInMarks .NotEq b = false := by first | exact nomark _ (by decide) (by decide) | rfl) : DT X g B E (.Compare a [.NotEq] [b] pos) (tBo (e2 dNe ma mb)) := dt_cmp (op_neE c.u64) dne_ok ha hb hm
theorem dt_is (ha : DE X g B E a ma) (hb : DE X g B E b mb) (hm : behindInMarks .Is b = false := by first | exact nomark _ (by decide) (by decide) | rfl) : DT X g B E (.Compare a [.Is] [b] pos) (tBo (e2 dIs ma mb)) := dt_cmp op_isN dis_ok ha hb hm
theorem dt_ns (ha : DE X g B E a ma) (hb : DE X g B E b mb) (hm : behindInMarks .IsNot b = false := by first | exact nomark _ (by decide) (by decide) | rfl) : DT X g B E (.Compare a [.IsNot] [b] pos) (tBo (e2 dNs ma mb)) := dt_cmp op_notN dns_ok ha hb hm
theorem dt_in (c : CxK T n X g E) (ha : DE X g B E a ma) (hb : DE X g B E b mb) (hm : behindInMarks .In b = false := by first | exact nomark _ (by decide) (by decide) | rfl) : DT X g B E (.Compare a [.In] [b] pos) (tBo (e2 dIn ma mb)) := dt_cmp (op_inD c.u65) din_ok ha hb hm
theorem dt_ni (c : CxK T n X g E) (ha : DE X g B E a ma) (hb : DE X g B E b mb) (hm : behindInMarks .NotIn b = false := by first | exact nomark _ (by decide) (by decide) | rfl) : DT X g B E (.Compare a [.NotIn] [b] pos) (tBo (e2 dNi ma mb)) := dt_cmp (op_notInD c.u65) dni_ok ha hb hm

theorem pa_any {ι : Type} {es : List Expr} {t : ι → TA} (h : ∀ i, PA X es (t i)) : PA X es (fun σ H Q => ∃ i, t i σ H Q) := ⟨fun p pins s σ H Q I ⟨i, q⟩ => (h i).run p pins s σ H Q I q⟩
/-- x, .. = [], e, .. : x alone holds the new list -/
@[simp] def sPo (i : Nat) (js : List Nat) (ml : Ev → W (List D)) : SM := fun env k => ml (env.map noOwn) (fun ds => match js, ds with
  | [j], [b] => k.nx ((env.set i (.own [])).set j (.sh b))
  | [j, l], [b, c] => k.nx (((env.set i (.own [])).set j (.sh b)).set l (.sh c))
  | _, _ => False) k.er
/-- the list stands, whatever is made behind it -/
theorem po_take {env : Ev} {S S' H H' : Hp} {σ : L2.St} {q : Addr} (i : Nat) (ok : Ok X.K X.mg g B env S σ H) (hq : H q = none) (f : Frm g S (upd H q (.lst [])) S' H') : Ok X.K X.mg g B (env.set i (.own [])) S' (σ.set i (some (.ref q))) H' := by
  have nR := notR ok.frm.dw hq
  have ok1 := ok.new (New.hid (o := .lst []) ok.frm.le hq)
  have hl := f.fr q _ upd_same nR (fun ps z => by cases z)
  have hs : S' q = none := by
    cases z : S' q with
    | none => rfl
    | some o =>
      rcases f.nw q o z with w | w
      · rw [ok.frm.le.none hq] at w
        cases w
      · exact (w.lst upd_same).elim
  refine (ok1.call f).take i hs (ok.frm.al _ hq) nR hl Reps.nil fun j b m e1 e2 w => ?_
  obtain ⟨b', vs, w1, w2, w3, w4, w5, w6⟩ := ok.slots j _ e1
  rw [e2] at w1
  have w7 : b = b' := by simpa using w1
  rw [← w7, w, hq] at w5
  cases w5
theorem ds_p3o {i j l : Nat} {x y z : Str} {px py pz pt : Pos} {kt k2 : Nat} {pt2 p2 : Pos} (hc : X.calm = true) (hN : X.N.Nodup) (hr : ∀ B', DAr X g B' E [b, c] ml) (hi : X.N[i]? = some x := by rfl) (hj : X.N[j]? = some y := by rfl) (hl : X.N[l]? = some z := by rfl)
    (hij : i ≠ j := by decide) (hil : i ≠ l := by decide) (hjl : j ≠ l := by decide) (hx : X.env.scope.names.lookup x = some .local := by rfl) (hy : X.env.scope.names.lookup y = some .local := by rfl) (hz : X.env.scope.names.lookup z = some .local := by rfl)
    (hw : swappedStores [.Tuple [.Name x px, .Name y py, .Name z pz] kt pt] (.Tuple [.List [] p2, b, c] k2 pt2) X.env = pure (some [x, y, z]) := by rfl)
    (hs : swapsWithSole [.Tuple [.Name x px, .Name y py, .Name z pz] kt pt] (.Tuple [.List [] p2, b, c] k2 pt2) pos.line X.env = pure false := by rfl)
    : DS X g B E (.Assign [.Tuple [.Name x px, .Name y py, .Name z pz] kt pt] (.Tuple [.List [] p2, b, c] k2 pt2) pos) (sPo i [j, l] ml) :=
  ps_imp (ps_par3 (i := i) (j := j) (l := l) hc hN hi hj hl hij hil hjl hx hy hz (pa_cons (pe_lst pa_nil) (pa_any (t := fun B1 => cloA X g B1 E ml) hr) (st_one rfl)) hw hs) fun De σ H h => by
    obtain ⟨env, S, k, ok, hm, kk⟩ := h
    refine ⟨by rw [sizeLine_eq]; show 0 ≤ 16777216; omega, fun q hq => ?_⟩
    have ok1 := ok.new (New.hid (o := .lst []) ok.frm.le hq)
    refine ⟨(S, _), env.map noOwn, S, _, k.er, ok1.noOwn, hm, fun ds vs S' H' p ok' ex r => ?_, fun x cls dx S' H' q2 f2 rx => kk.er x cls dx S' H' q2 (ok1.frm.tr f2) rx⟩
    match ds, p with
    | [d1, d2], p =>
      obtain ⟨v1, v2, rfl, r1, r2⟩ := rep2 r
      exact ⟨.ref q, v1, v2, rfl, kk.nx _ S' _ H' p (((po_take i ok hq ok'.frm).set j r1).set l r2) ex⟩
theorem ds_p2o {i j : Nat} {x y : Str} {px py pt : Pos} {kt k2 : Nat} {pt2 p2 : Pos} (hc : X.calm = true) (hN : X.N.Nodup) (hr : ∀ B', DAr X g B' E [b] ml) (hi : X.N[i]? = some x := by rfl) (hj : X.N[j]? = some y := by rfl) (hij : i ≠ j := by decide)
    (hx : X.env.scope.names.lookup x = some .local := by rfl) (hy : X.env.scope.names.lookup y = some .local := by rfl)
    (hw : swappedStores [.Tuple [.Name x px, .Name y py] kt pt] (.Tuple [.List [] p2, b] k2 pt2) X.env = pure (some [x, y]) := by rfl)
    (hs : swapsWithSole [.Tuple [.Name x px, .Name y py] kt pt] (.Tuple [.List [] p2, b] k2 pt2) pos.line X.env = pure false := by rfl)
    : DS X g B E (.Assign [.Tuple [.Name x px, .Name y py] kt pt] (.Tuple [.List [] p2, b] k2 pt2) pos) (sPo i [j] ml) :=
  ps_imp (ps_par (i := i) (j := j) hc hN hi hj hij hx hy (pa_cons (pe_lst pa_nil) (pa_any (t := fun B1 => cloA X g B1 E ml) hr) (st_one rfl)) hw hs) fun De σ H h => by
    obtain ⟨env, S, k, ok, hm, kk⟩ := h
    refine ⟨by rw [sizeLine_eq]; show 0 ≤ 16777216; omega, fun q hq => ?_⟩
    have ok1 := ok.new (New.hid (o := .lst []) ok.frm.le hq)
    refine ⟨(S, _), env.map noOwn, S, _, k.er, ok1.noOwn, hm, fun ds vs S' H' p ok' ex r => ?_, fun x cls dx S' H' q2 f2 rx => kk.er x cls dx S' H' q2 (ok1.frm.tr f2) rx⟩
    match ds, p with
    | [d1], p =>
      obtain ⟨v1, rfl, r1⟩ := rep1 r
      exact ⟨.ref q, v1, rfl, kk.nx _ S' _ H' p ((po_take i ok hq ok'.frm).set j r1) ex⟩
end
end DL

set_option Elab.async false
set_option linter.all false
set_option maxRecDepth 100000
set_option maxHeartbeats 2000000
/-! DH: the law's call: what stands at its start, what is left behind its end. -/
namespace DL
open PySem PySem.Spec PyProof.Rows L2

/-- what is tracked at the law's call: the tables of code objects; the script's list, unless the top knows it -/
def startH (ts : List Addr) (a : Addr) (known : Bool) (ob : Obj) (l : List V) : Hp := fun b => if b ∈ ts then some (.tbl #[]) else if b = a ∧ known = false then some (.frz ob (.lst l)) else none
section
variable {ts : List Addr} {a b : Addr} {known : Bool} {ob : Obj} {l : List V} {u : HO}
theorem startH_tab (h : b ∈ ts) : startH ts a known ob l b = some (.tbl #[]) := if_pos h
theorem startH_some (h : startH ts a known ob l b = some u) : (b ∈ ts ∧ u = .tbl #[]) ∨ (b ∉ ts ∧ b = a ∧ known = false ∧ u = .frz ob (.lst l)) := by
  unfold startH at h
  by_cases q : b ∈ ts
  · rw [if_pos q] at h
    exact .inl ⟨q, (Option.some.inj h).symm⟩
  · rw [if_neg q] at h
    by_cases z : b = a ∧ known = false
    · rw [if_pos z] at h
      exact .inr ⟨q, z.1, z.2, (Option.some.inj h).symm⟩
    · rw [if_neg z] at h
      cases h
theorem startH_at (h1 : a ∉ ts) (h2 : known = false) : startH ts a known ob l a = some (.frz ob (.lst l)) := (if_neg h1).trans (if_pos ⟨rfl, h2⟩)
end
/-- a law's promise at the start of its call -/
def LawG (l : PySem.W.OpenLaw) (w : World) (K : PySem.W.Frag) (k n : Nat) (x : Str) (mg : Str → Option Value) (fa : Addr) (h : Heap) : Prop :=
  ∃ (fd : FuncData) (cs : List (Addr × Addr)) (sp : Sp), (∀ p ∈ cs, h.get? p.2 = some { cls := .none, data := .fields #[] }) ∧ (∀ p ∈ cs, K.lookup p.2 = none) ∧ (∀ p ∈ cs, PySem.W.CodeHd h p.1 p.2) ∧ (∀ (s : Shared) (u : Value), BindsTo s fd ⟨[u], []⟩ [(x, u)]) ∧
    (∀ (a : Addr) (ns : List Int) (known : Bool) (ob : Obj), ns.length ≤ n → (∀ z ∈ ns, Builtin.Int.intBits z ≤ 1048576) → a ∉ cs.map Prod.snd → SqL K (startH (cs.map Prod.snd) a known ob (ns.map V.int)) a (ns.map V.int) →
      sp [.ref a] (startH (cs.map Prod.snd) a known ob (ns.map V.int)) (fun v _ => v = .bl true) fun _ _ _ => False) ∧
    ∀ base : Heap, K.In base → base.Ns mainGlobals mg → (∀ p ∈ cs, LamX.TabB base mg p.1 p.2) → FnG l.prog w K mg base k fa fd 1 [x] sp
section
variable {P : Program} {w : World} {K : PySem.W.Frag} {mg mb : Str → Option Value} {k : Nat} {fa a : Addr} {cs : List (Addr × Addr)} {fd : FuncData} {x : Str} {sp : Sp} {s1 : Shared} {us : List Value} {ns : List Int}
theorem end_run (hK : K.In s1.heap) (hG : s1.heap.Ns mainGlobals mg) (hB : s1.heap.Ns builtinsNs mb) (hB2 : ∀ y : Str, y ≠ "__name__" → mb y = bootBuiltins y) (hL : s1.heap.NoLimit) (hgen : s1.gens = #[])
    (tab : ∀ p ∈ cs, s1.heap.get? p.2 = some { cls := .none, data := .fields #[] }) (tabK : ∀ p ∈ cs, K.lookup p.2 = none) (code : ∀ p ∈ cs, PySem.W.CodeHd s1.heap p.1 p.2)
    (bmod : ∃ (bm : Addr) (ob : Obj), mg "__builtins__" = some (.ref bm) ∧ bm ≠ builtinsNs ∧ s1.heap.get? bm = some ob ∧ ob.cls = .type "module" ∧ ob.dict = some builtinsNs ∧ ob.data = .plain)
    (script : s1.heap.get? a = some { cls := .type "list", data := .seq us.toArray }) (hints : IntsAre us ns) (few : ns.length ≤ sizeLine) (room : Room k callerA)
    (F : ∀ base : Heap, K.In base → base.Ns mainGlobals mg → (∀ p ∈ cs, LamX.TabB base mg p.1 p.2) → FnG P w K mg base k fa fd 1 [x] sp) (bind : ∀ (s : Shared) (u : Value), BindsTo s fd ⟨[u], []⟩ [(x, u)])
    (start : ∀ (known : Bool) (ob : Obj), a ∉ cs.map Prod.snd → SqL K (startH (cs.map Prod.snd) a known ob (ns.map V.int)) a (ns.map V.int) → sp [.ref a] (startH (cs.map Prod.snd) a known ob (ns.map V.int)) (fun v _ => v = .bl true) fun _ _ _ => False) :
    codeAny (model P w) callerA (.call (.ref fa) ⟨[.ref a], []⟩) (fun r s' => r = .ok (.ret (.bool true)) ∧ OldK s1.heap s'.heap ∧ s'.os = s1.os ∧ AllBare s'.gens) s1 := by
  have ofTab : ∀ b ∈ cs.map Prod.snd, ∃ p ∈ cs, b = p.2 := fun b hb => let ⟨p, hp, e⟩ := List.mem_map.mp hb; ⟨p, hp, e.symm⟩
  have toTab : ∀ p ∈ cs, p.2 ∈ cs.map Prod.snd := fun p hp => List.mem_map.mpr ⟨p, hp, rfl⟩
  have tabAt : ∀ b ∈ cs.map Prod.snd, s1.heap.get? b = some { cls := .none, data := .fields #[] } := fun b hb => by
    obtain ⟨p, hp, rfl⟩ := ofTab b hb
    exact tab p hp
  have apart : a ∉ cs.map Prod.snd := fun z => by
    have e := tabAt a z
    rw [script] at e
    have e2 := congrArg Obj.data (Option.some.inj e)
    cases e2
  obtain ⟨known, hkn⟩ : ∃ known : Bool, known = (K.lookup a).isSome := ⟨_, rfl⟩
  obtain ⟨H, hH⟩ : ∃ H : Hp, H = startH (cs.map Prod.snd) a known { cls := .type "list", data := .seq us.toArray } (ns.map V.int) := ⟨_, rfl⟩
  have cse : ∀ b u, H b = some u → (b ∈ cs.map Prod.snd ∧ u = .tbl #[]) ∨ (b ∉ cs.map Prod.snd ∧ b = a ∧ known = false ∧ u = .frz { cls := .type "list", data := .seq us.toArray } (.lst (ns.map V.int))) := fun b u e => by
    rw [hH] at e
    exact startH_some e
  have rv := vals_ints hints
  have len := hints.length
  have seq : SqL K H a (ns.map V.int) := by
    cases hk : K.lookup a with
    | some o =>
      have e := hK a o hk
      rw [script] at e
      have e2 := Option.some.inj e
      subst e2
      exact .inr ⟨_, us.toArray, _, hk, rfl, rfl, rfl, by rw [List.size_toArray, len]; exact few, by simpa using rv⟩
    | none =>
      rw [hk] at hkn
      have e : H a = some (.frz { cls := .type "list", data := .seq us.toArray } (.lst (ns.map V.int))) := by
        rw [hH]
        exact startH_at apart hkn
      exact .inl (.inr ⟨_, e⟩)
  have hok : HOk P w H s1.heap := fun b u e => by
    rcases cse b u e with ⟨h1, rfl⟩ | ⟨_, rfl, _, rfl⟩
    · exact tabAt b h1
    · exact ⟨script, by rw [List.length_map]; exact few, us, _, rv, script⟩
  -- what is no list and no table is not tracked
  have out : ∀ {b : Addr} {o : Obj}, s1.heap.get? b = some o → (∀ zs n, o.data ≠ .seq zs n) → o.data ≠ .fields #[] → H b = none := fun {b o} e n1 n2 => by
    cases q : H b with
    | none => rfl
    | some u =>
      rcases cse b u q with ⟨h1, _⟩ | ⟨_, h2, _, _⟩
      · rw [tabAt b h1] at e
        have e2 := Option.some.inj e
        subst e2
        exact absurd rfl n2
      · rw [h2, script] at e
        have e2 := Option.some.inj e
        subst e2
        exact absurd rfl (n1 _ _)
  have space : ∀ {b : Addr} {m : Str → Option Value}, s1.heap.Ns b m → (hidT s1.heap H).Ns b m := fun {b m} ⟨o, es, ep, e, d, r⟩ =>
    ⟨o, es, ep, hidT_get e (out e (fun zs n z => by rw [d] at z; cases z) (fun z => by rw [d] at z; cases z)), d, r⟩
  have kin : K.In (hidT s1.heap H) := fun b o e => hidT_get (hK b o e) (by
    cases q : H b with
    | none => rfl
    | some u =>
      rcases cse b u q with ⟨h1, _⟩ | ⟨_, h2, h3, _⟩
      · obtain ⟨p, hp, h4⟩ := ofTab b h1
        rw [h4, tabK p hp] at e
        cases e
      · rw [h2] at e
        rw [e, h3] at hkn
        cases hkn)
  have modl : L2.Mod K mg (hidT s1.heap H) := ⟨kin, space hG, ⟨mb, space hB, hB2⟩, let ⟨mc, h1, h2⟩ := hL; ⟨mc, space h1, h2⟩⟩
  have tabs : ∀ p ∈ cs, LamX.TabB (hidT s1.heap H) mg p.1 p.2 := fun p hp => by
    have tp := tab p hp
    refine ⟨?_, ?_, fun z => ?_⟩
    · obtain ⟨o, zs, fi, tf, fl, tg, inF, tx, tt, e, r1, r2, r3, rest⟩ := code p hp
      exact ⟨o, zs, fi, tf, fl, tg, inF, tx, tt, hidT_get e (out e (fun ys n z => by rw [r2] at z; cases z) (fun z => by rw [r2] at z; cases z; simp at r3)), r1, r2, r3, rest⟩
    · obtain ⟨bm, ob, b1, b2, b3, b4, b5, b6⟩ := bmod
      refine ⟨bm, ob, b1, b2, fun q => ?_, fun q => ?_, hidT_get b3 (out b3 (fun zs n z => by rw [b6] at z; cases z) (fun z => by rw [b6] at z; cases z)), b4, b5, b6⟩
      · obtain ⟨o, es, ep, e, hd, _⟩ := hG
        rw [q, e] at b3
        have e2 := Option.some.inj b3
        subst e2
        rw [hd] at b6
        cases b6
      · rw [q, tp] at b3
        have e2 := Option.some.inj b3
        subst e2
        cases b6
    · obtain ⟨o, es, ep, e, hd, _⟩ := hG
      rw [z, tp] at e
      have e2 := Option.some.inj e
      subst e2
      cases hd
  have e0 : Env0 P w K mg (hidT s1.heap H) callerA [] s1 H := ⟨rfl, modl, fun b o e => of_hidT e, Nat.le_of_eq (hidT_size _ _), trivial, fun b hb => (by cases hb), hok, .of_eq hgen⟩
  have call := (F _ kin (space hG) tabs).run callerA [] s1 H ⟨[.ref a], []⟩ [.ref a] [.ref a] (fun v _ => v = .bl true) (fun _ _ _ => False) room rfl e0 (bind s1 (.ref a)) (.cons rfl .nil) (by
    rw [hH] at seq ⊢
    exact start _ _ apart seq)
  refine codeAny_mono call fun r s' hr => ?_
  match r, hr with
  | .error e, hr =>
    obtain ⟨_, _, _, _, _, _, _, _, _, _, _, _, z⟩ := hr
    exact z.elim
  | .ok (.ret u), hr =>
    obtain ⟨v, H', os, bare, un, hok', ru, ev⟩ := hr
    have ev2 : v = .bl true := ev
    subst ev2
    have eu : u = Value.bool true := ru
    subst eu
    have kept : ∀ b o, b ∉ cs.map Prod.snd → s1.heap.get? b = some o → s'.heap.get? b = some o := fun b o nb e => by
      cases q : H b with
      | none => exact un.keep b o e q (fun z => by cases z) (fun z => by cases z)
      | some u =>
        rcases cse b u q with ⟨h1, _⟩ | ⟨_, h2, _, h4⟩
        · exact absurd h1 nb
        · rw [h4] at q
          have z := (hok' b _ (un.frzs b _ _ q)).1
          rw [h2, script] at e
          rw [← e]
          exact z
    have grown : ∀ p ∈ cs, ∃ more : Array Value, s'.heap.get? p.2 = some { cls := .none, data := .fields more } := fun p hp => by
      obtain ⟨more, z⟩ := un.tbls p.2 #[] (by rw [hH]; exact startH_tab (toTab p hp))
      exact ⟨_, hok' p.2 _ z⟩
    refine ⟨rfl, ⟨fun b o e => ?_, fun b o e => ?_⟩, os, bare⟩
    · by_cases hb : b ∈ cs.map Prod.snd
      · obtain ⟨p, hp, rfl⟩ := ofTab b hb
        rw [tab p hp] at e
        have e2 := Option.some.inj e
        subst e2
        obtain ⟨more, hm⟩ := grown p hp
        exact .inr (.inl ⟨((code p hp).tab (tab p hp)).isCodeTable, rfl, #[], more, rfl, by rw [Array.empty_append]; exact hm⟩)
      · exact .inl (kept b o hb e)
    · by_cases hb : b ∈ cs.map Prod.snd
      · obtain ⟨p, hp, rfl⟩ := ofTab b hb
        obtain ⟨more, hm⟩ := grown p hp
        exact ⟨_, hm⟩
      · exact ⟨o, kept b o hb e⟩
end
/-- the end of a law -/
theorem law_end {l : PySem.W.OpenLaw} {n k : Nat} {q : Program} {loose : List Str} {XP : (Str → Option Value) → Heap → Prop} {YP : World → Heap → Prop} {d : DefRec} {x : Str} (hn : l.most = some n) (hn2 : n ≤ sizeLine) (hdf : d.params.defaults = []) (room : Room k callerA)
    (F : ∀ (w : World) (mg : Str → Option Value) (fa : Addr) (h : Heap), YP w h → h.Ns mainGlobals mg → mg d.name = some (.ref fa) → ∃ K : PySem.W.Frag, K.In h ∧ LawG l w K k n x mg fa h) : PySem.W.WalkO q loose XP YP l.row.toRowW d [] (fun f vs => PySem.call f vs) := by
  refine Att.attach_callB hn hdf fun w s0 s1 mg mb fa o pm cd doc a us ns gr yp ho hd hcd hmg hobj hints hlen hbits hg => ?_
  obtain ⟨K, hK, fd, cs, sp, tab, tabK, code, bind, start, F1⟩ := F w mg fa _ yp gr.T.g hmg
  exact end_run hK gr.T.g gr.T.b gr.T.builtins gr.T.nolimit hg tab tabK code gr.T.bmain hobj hints (Nat.le_trans hlen hn2) room F1 bind fun known ob ha hs => start a ns known ob hlen hbits ha hs
end DL

set_option Elab.async false
set_option linter.all false
set_option maxRecDepth 100000
set_option maxHeartbeats 2000000
/-! DF: the draws' start, the law's own body. -/
namespace DL
open PySem PySem.Spec PyProof.Rows L2
/-- at the law's start: no draws -/
def g0 (T : List (Addr × Str)) : Gd := ⟨T, [], fun _ => True, .non, fun _ => none, fun _ _ _ _ => trivial, fun _ _ a ha => by cases ha⟩
/-- the script is read, a dict of the draws is handed back -/
def spBg (K : PySem.W.Frag) (mg : Str → Option Value) (T : List (Addr × Str)) : Sp := fun vs H Q _ => ∃ (v : V) (l : List Int) (S : Hp), vs = [v] ∧ Rep K mg (g0 T) S (.scr l) v ∧ l.length ≤ 63 ∧ Frm (g0 T) S H S H ∧
  ∀ (g1 : Gd) (u : V) (S1 H1 : Hp), g1.T = T → Frm g1 S1 H1 S1 H1 → Ex S S1 → Rep K mg g1 S1 .drw u → Q u H1
@[simp] def m_bg1 : SM := sLo 1 [2] (tgN 2) (iOf (eVar 0)) (tBo (e2 dGe (eA bAbs (aCons (eVar 2) aNil)) (e2 dPow (eC (.int 10)) (eC (.int 18))))) (e2 dSub (eA bAbs (aCons (eVar 2) aNil)) (e2 dPow (eC (.int 10)) (eC (.int 18))))
@[simp] def m_bg3 : EM := eLc [2] (tgN 2) (iOf (eVar 0)) tTrue (eA bAbs (aCons (eVar 2) aNil))
theorem bg1_ok : ∀ (l : List Int) (e0 : D) (P : List D → Prop) (Z : D → Prop), (∀ big : List Int, big.length ≤ l.length → (∀ z ∈ big, 0 ≤ z) → P (big.map D.int)) →
    lcE (tgN 2) (tBo (e2 dGe (eA bAbs (aCons (eVar 2) aNil)) (e2 dPow (eC (.int 10)) (eC (.int 18))))) (e2 dSub (eA bAbs (aCons (eVar 2) aNil)) (e2 dPow (eC (.int 10)) (eC (.int 18)))) [.sh e0, .un, .un] (l.map D.int) P Z
  | [], e0, P, Z, h => h [] (Nat.le_refl _) (fun z hz => by cases hz)
  | i :: l, e0, P, Z, h => by
    have cp : CPow 10 18 := ⟨by decide, by decide, by decide⟩
    rw [List.map_cons]
    unfold lcE
    show CPow 10 18 ∧ _
    refine ⟨cp, ?_⟩
    have rec1 := bg1_ok l e0 P Z fun big h1 h2 => h big (by rw [List.length_cons]; omega) h2
    by_cases hz : (10 : Int) ^ (18 : Int).toNat ≤ (if i < 0 then -i else i)
    · show (if (decide ((10 : Int) ^ (18 : Int).toNat ≤ (if i < 0 then -i else i))) = true then _ else _)
      rw [if_pos (decide_eq_true hz)]
      show CPow 10 18 ∧ _
      refine ⟨cp, ?_⟩
      exact bg1_ok l e0 _ Z fun big h1 h2 => h (((if i < 0 then -i else i) - (10 : Int) ^ (18 : Int).toNat) :: big) (by rw [List.length_cons, List.length_cons]; omega) fun z hz2 => by
        rcases List.mem_cons.mp hz2 with rfl | hz2
        · omega
        · exact h2 z hz2
    · show (if (decide ((10 : Int) ^ (18 : Int).toNat ≤ (if i < 0 then -i else i))) = true then _ else _)
      rw [if_neg (by rw [decide_eq_false hz]; decide)]
      exact rec1
theorem bg3_ok : ∀ (l : List Int) (e0 : D) (P : List D → Prop) (Z : D → Prop), (∀ cs : List Int, cs.length = l.length → (∀ z ∈ cs, 0 ≤ z) → P (cs.map D.int)) →
    lcE (tgN 2) tTrue (eA bAbs (aCons (eVar 2) aNil)) [.sh e0, .un, .un] (l.map D.int) P Z
  | [], e0, P, Z, h => h [] rfl (fun z hz => by cases hz)
  | i :: l, e0, P, Z, h => by
    rw [List.map_cons]
    unfold lcE
    dsimp only [tgN, List.set, tTrue]
    rw [if_pos rfl]
    exact bg3_ok l e0 _ Z fun cs h1 h2 => h ((if i < 0 then -i else i) :: cs) (by rw [List.length_cons, List.length_cons]; omega) fun z hz => by
      rcases List.mem_cons.mp hz with rfl | hz
      · split <;> omega
      · exact h2 z hz
/-- the i-th value of a dict that is handed back -/
def retDict (i : Nat) : Stmt → Expr
  | .Return (some (.Dict _ vs _)) _ => vs.getD i (.Constant .none 0 ⟨0, 0, 0, 0⟩)
  | _ => .Constant .none 0 ⟨0, 0, 0, 0⟩
/-- the body: large = [..]; return {"large": large, "rest": 0, "cells": [..], "turn": 0} -/
structure BgBody (st s1 : Stmt) (e3 : Expr) (gr : Str) : Prop where
  ex : ∃ (p1 p2 p3 p4 p5 p6 p7 p8 p9 : Pos) (j1 j2 j3 j4 j5 j6 : Nat), defBody st = [s1, .Return (some (.Dict [some (.Constant (.str "large") j1 p1), some (.Constant (.str "rest") j2 p2), some (.Constant (.str "cells") j3 p3), some (.Constant (.str "turn") j4 p4)]
    [.Name "large" p5, .Constant (.int 0) j5 p6, e3, .Constant (.int 0) j6 p7] p8)) p9]
  scope : FnScope ["script", "large", gr] ["script"] (defScope st)
  ll : (defScope st).names.lookup ("large" : Str) = some .local
theorem reps_ints {K : PySem.W.Frag} {mg : Str → Option Value} {g : Gd} {S : Hp} : ∀ {l : List Int} {vs : List V}, Reps K mg g S (l.map D.int) vs → vs = l.map V.int
  | [], vs, h => by
    unfold Reps at h
    exact h
  | i :: l, vs, h => by
    rw [List.map_cons] at h
    unfold Reps at h
    obtain ⟨w, ws, rfl, h2, h3⟩ := h
    unfold Rep at h2
    rw [h2, reps_ints h3, List.map_cons]
section
variable {P : Program} {w : World} {K : PySem.W.Frag} {mg : Str → Option Value} {base : Heap} {T : List (Addr × Str)}
theorem begun_fn {x : Str} {st s1 : Stmt} {e3 : Expr} {gr : Str} {f : Addr} {fd : FuncData} {k : Nat} (F : Fun K x x st f fd) (bb : BgBody st s1 e3 gr)
    (h1 : ∀ (cdv : Value) (A : Around) (outer : List Env) (s : Shared) (H : Hp) (E : XK) (g : Gd) (B : Hp × Hp), CxK T k (cxOf (L2.CX P w) P w K mg base ["script", "large", gr] x (defScope st) f cdv A outer s H E) g E →
      DS (cxOf (L2.CX P w) P w K mg base ["script", "large", gr] x (defScope st) f cdv A outer s H E) g B E s1 m_bg1)
    (h3 : ∀ (cdv : Value) (A : Around) (outer : List Env) (s : Shared) (H : Hp) (E : XK) (g : Gd) (B : Hp × Hp), CxK T k (cxOf (L2.CX P w) P w K mg base ["script", "large", gr] x (defScope st) f cdv A outer s H E) g E →
      DE (cxOf (L2.CX P w) P w K mg base ["script", "large", gr] x (defScope st) f cdv A outer s H E) g B E e3 m_bg3) : FnG P w K mg base (k + 1) f fd 1 ["script"] (spBg K mg T) := by
  obtain ⟨p1, p2, p3, p4, p5, p6, p7, p8, p9, j1, j2, j3, j4, j5, j6, hbd⟩ := bb.ex
  refine fnG_of F bb.scope (fun vs H Q E h => ?_) fun cdv A outer s H vs Q E hr hg h => ?_
  · obtain ⟨v, l, S, rfl, _⟩ := h
    rfl
  obtain ⟨v, l, S, rfl, rl, hl, fr, kq⟩ := h
  have cx : CxK T k (cxOf (L2.CX P w) P w K mg base ["script", "large", gr] x (defScope st) f cdv A outer s H E) (g0 T) E := cxk_of hr rfl hg
  rw [hbd]
  refine ⟨_, pss_cons (h1 cdv A outer s H E (g0 T) (S, H) cx) (pss_one (ps_ret (pe_disp (pps_cons pe_str (pe_var (i := 1) rfl (.inl bb.ll) (by decide) (by decide)) (pps_cons pe_str pe_int
    (pps_cons pe_str (pe_any (t := fun B1 => clo _ (g0 T) B1 E m_bg3) fun B1 => h3 cdv A outer s H E (g0 T) B1 cx) (pps_cons pe_str pe_int pps_nil)))) rfl rfl (by simp) (by show 4 ≤ 15; decide)))), ?_⟩
  have o := ok_start (N := ["script", "large", gr]) fr (Reps.cons rl Reps.nil)
  refine ⟨_, S, { nx := fun e => ∃ big : List Int, big.length ≤ l.length ∧ (∀ z ∈ big, 0 ≤ z) ∧ e = [.sh (.scr l), .own (big.map D.int), .un], rt := fun _ => False }, o, ?_, ?_⟩
  · show (l.map D.int).length < 16777216 ∧ _
    refine ⟨by rw [List.length_map]; omega, ?_⟩
    exact bg1_ok l (.scr l) _ _ fun big q1 q2 => ⟨big, q1, q2, rfl⟩
  refine ⟨fun env S2 σ H2 q ok ex => ?_, fun _ _ _ _ z => z.elim, fun _ _ _ _ z => z.elim, fun _ _ _ _ z => z.elim, fun _ _ _ _ _ z => z.elim⟩
  obtain ⟨big, q1, q2, rfl⟩ := q
  have sl := ok.slots 1 _ rfl
  obtain ⟨b, bs, b1, b2, b3, b4, b5, b6⟩ := sl
  intro p hp
  refine ⟨.ref b, b1, ?_⟩
  have okp := ok.new (New.hid (o := .dK []) ok.frm.le hp)
  have nR : b ≠ p := fun q => by
    rw [q, hp] at b5
    cases b5
  refine ⟨(S2, upd H2 p (.dK [])), _, S2, fun d => ∃ cs : List Int, cs.length ≤ 63 ∧ (∀ z ∈ cs, 0 ≤ z) ∧ d = D.lst (cs.map D.int), fun _ => False, okp.noOwn, ?_, fun d v2 S3 H3 q3 ok3 ex3 r3 => ?_, fun _ _ _ _ _ z => z.elim⟩
  · show (l.map D.int).length < 16777216 ∧ _
    refine ⟨by rw [List.length_map]; omega, ?_⟩
    exact bg3_ok l (.scr l) _ _ fun cs q1 q2 => ⟨cs, by omega, q2, rfl⟩
  obtain ⟨cs, c1, c2, rfl⟩ := q3
  unfold Rep at r3
  obtain ⟨c, cv, rfl, r4, r5⟩ := r3
  have ecv := reps_ints r5
  subst ecv
  have fr3 := ok3.frm
  have hp3 : H3 p = some (.dK []) := fr3.fr p _ upd_same (fun z => by cases z) (fun ps z => by cases z)
  have ebs := reps_ints b6
  subst ebs
  have hb3 : H3 b = some (.lst (big.map V.int)) := fr3.fr b _ ((upd_ne nR).trans b5) (fun z => by cases z) (fun ps z => by cases z)
  have hc3 : H3 c = some (.lst (cs.map V.int)) := by
    rcases fr3.le c _ r4 with z | ⟨z, _⟩
    · exact z
    · cases z
  have sp : S3 p = none := by
    cases q : S3 p with
    | none => rfl
    | some o =>
      rcases fr3.nw p o q with z | z
      · have z2 : S2 p = some o := z
        rw [ok.frm.le.none hp] at z2
        cases z2
      · obtain ⟨ps, z⟩ := z _ upd_same
        cases z
  have sb : S3 b = none := by
    cases q : S3 b with
    | none => rfl
    | some o =>
      rcases fr3.nw b o q with z | z
      · have z2 : S2 b = some o := z
        rw [b2] at z2
        cases z2
      · exact (z.lst ((upd_ne nR).trans b5)).elim
  have ncp : c ≠ p := fun q => by
    rw [q, sp] at r4
    cases r4
  have ncb : c ≠ b := fun q => by
    rw [q, sb] at r4
    cases r4
  show H3 p = some (.dK []) ∧ _
  refine ⟨hp3, [(.inr "large", .ref b), (.inr "rest", .int 0), (.inr "cells", .ref c), (.inr "turn", .int 0)], rfl, by show 4 ≤ 15; decide, ?_⟩
  have em : mergeK [] [(Sum.inr ("large" : Str), V.ref b), (.inr "rest", .int 0), (.inr "cells", .ref c), (.inr "turn", .int 0)] = [(.inr "large", .ref b), (.inr "rest", .int 0), (.inr "cells", .ref c), (.inr "turn", .int 0)] := by rfl
  rw [em]
  have hat : DrwAt p b c (upd H3 p (.dK [(.inr "large", .ref b), (.inr "rest", .int 0), (.inr "cells", .ref c), (.inr "turn", .int 0)])) :=
    ⟨big, 0, 0, upd_same, (upd_ne nR).trans hb3, by omega, q2, by omega, by omega⟩
  refine kq ⟨T, [p, b], DrwAt p b c, .ref p, fun x => if x = c then some (.lst (cs.map V.int)) else none, fun X Y same h => ?_, fun X h a ha => ?_⟩ (.ref p) S3 _ rfl ⟨Ex.rf _, fun a o z => ?_, fun _ _ z _ _ => z, fun _ z => Nn.of z, fun _ _ z => .inl z, hat, fun a ha => ?_, ?_, fr3.nt, fun a o z => ?_⟩ (ex.tr ex3) ?_
  · obtain ⟨big, rest, turn, h1, h2, h3⟩ := h
    exact ⟨big, rest, turn, (same p (by simp)).trans h1, (same b (by simp)).trans h2, h3⟩
  · obtain ⟨big, rest, turn, h1, h2, h3⟩ := h
    simp only [List.mem_cons, List.not_mem_nil, or_false] at ha
    rcases ha with rfl | rfl
    · exact ⟨_, h1, fun ps z => by cases z⟩
    · exact ⟨_, h2, fun ps z => by cases z⟩
  · have n : a ≠ p := fun q => by
      rw [q, sp] at z
      cases z
    rw [upd_ne n]
    exact fr3.le a o z
  · simp only [List.mem_cons, List.not_mem_nil, or_false] at ha
    rcases ha with rfl | rfl
    · exact sp
    · exact sb
  · exact tabs_upd fr3.tb hp3 (fun ps z => by cases z) (fun φ z => by cases z)
  · by_cases q : a = c
    · subst q
      have z2 : (if a = a then some (HO.lst (cs.map V.int)) else none) = some o := z
      rw [if_pos rfl] at z2
      rw [← z2]
      exact r4
    · have z2 : (if a = c then some (HO.lst (cs.map V.int)) else none) = some o := z
      rw [if_neg q] at z2
      cases z2
  · unfold Rep
    exact ⟨rfl, p, b, c, cs, rfl, rfl, if_pos rfl, c1, c2, fun _ => Iff.rfl⟩
/-- the law's promise -/
def spLw (K : PySem.W.Frag) (mg : Str → Option Value) (T : List (Addr × Str)) : Sp := fun vs H Q _ => ∃ (v : V) (l : List Int) (S : Hp), vs = [v] ∧ Rep K mg (g0 T) S (.scr l) v ∧ l.length ≤ 63 ∧ Frm (g0 T) S H S H ∧ ∀ H', Q (.bl true) H'
/-- a call upon a promise that is no computation -/
theorem pe_sp {X : Cx} {g : Gd} {E : XK} {n : Nat} {x y : Str} {st : Stmt} {f : Addr} {fd : FuncData} {sp : Sp} {a : Expr} {es : List Expr} {ta : TA} {p pos : Pos} (F : FnG X.prog X.w X.K X.mg X.base n f fd 1 [y] sp) (h2 : Fun X.K x x st f fd) (h3 : Binds X.K fd [y] []) (hm : X.mg x = some (.ref f)) (c : CxK T n X g E) (hg : Gl X x)
    (ha : PA X (a :: es) ta) (hdb : (x == ("__debug__" : Str)) = false := by decide) (hst : noStar (a :: es) = true := by rfl) : PE X (.Call (.Name x p) (a :: es) [] pos) (fun σ H Q => ta σ H fun vs H1 => vs.length = 1 ∧ sp vs H1 Q E) := by
  refine ⟨fun pins s σ H Q I h => ?_⟩
  refine wpAny_Call_Name_kw (ld_glob I hg hm ?_ hdb)
  refine PySem.W.callWith_K (h₀ := X.base) I.ok.mod.kin h2.kp (thn (ha.run pos pins s σ H _ I h) fun us s1 hh => ?_) (st_cons hst) (st_any hst)
  obtain ⟨vs, H1, I1, r, hl, q⟩ := hh
  have bd := h3 s1 us I1.kIn (by rw [List.append_nil, ← r.length]; exact hl)
  rw [List.append_nil] at bd
  exact ⟨I1.kIn, run_g F c bd I1 r q⟩
theorem dss_any {X : Cx} {E : XK} {rest : List Stmt} {m : SM} {k : Nat} {T : List (Addr × Str)} (h : ∀ (g : Gd) (B : Hp × Hp), CxK T k X g E → DSs X g B E rest m) : PSs X rest (fun D σ H => ∃ g B, CxK T k X g E ∧ cloS X g B E m D σ H) :=
  ⟨fun pins s σ H D I ⟨g, B, c, q⟩ => (h g B c).run pins s σ H D I q⟩
/-- the law: draw = _law_begun(script), and the rest, over any draws -/
theorem law_fn {N : List Str} {i k : Nat} {x bg : Str} {st stb : Stmt} {rest : List Stmt} {f fb : Addr} {fdb : FuncData} {m : SM} {oc : Value} {od an : Option Addr} {osl : Array (Option Value)} {kV doc pm cdv ct : Value} {p1 p2 p3 p4 p5 : Pos}
    (lk : K.lookup f = some ⟨oc, od, .func (PySem.W.fnOf x x (defArgs st) (defBody st) (defScope st) .none kV doc pm an cdv ct), osl⟩) (hc : PySem.W.codeIn K cdv x = true) (Sc : FnScope N ["script"] (defScope st))
    (hbd : defBody st = .Assign [.Name "draw" p1] (.Call (.Name bg p2) [.Name "script" p3] [] p4) p5 :: rest)
    (Fb : FnG P w K mg base k fb fdb 1 ["script"] (spBg K mg T)) (h2 : Fun K bg bg stb fb fdb) (h3 : Binds K fdb ["script"] []) (hm : mg bg = some (.ref fb)) (hN0 : N[0]? = some ("script" : Str)) (hNi : N[i]? = some ("draw" : Str)) (hi : i ≠ 0)
    (hv : Vis (defScope st) "script") (hl : Loc (defScope st) "draw") (hgb : (defScope st).names.lookup bg = some .globalImplicit) (hdb : (bg == ("__debug__" : Str)) = false)
    (hs : ∀ (A : Around) (outer : List Env) (s : Shared) (H : Hp) (E : XK), swapsWith (.Call (.Name bg p2) [.Name "script" p3] [] p4) (some (.Name "draw" p1)) p5.line (cxOf (L2.CX P w) P w K mg base N x (defScope st) f cdv A outer s H E).env = pure false)
    (hf : ∀ (A : Around) (outer : List Env) (s : Shared) (H : Hp) (E : XK), (cxOf (L2.CX P w) P w K mg base N x (defScope st) f cdv A outer s H E).fn "draw" = true ∨ (defScope st).names.lookup ("draw" : Str) = some .local)
    (hrest : ∀ (A : Around) (outer : List Env) (s : Shared) (H : Hp) (E : XK) (g : Gd) (B : Hp × Hp), CxK T k (cxOf (L2.CX P w) P w K mg base N x (defScope st) f cdv A outer s H E) g E →
      DSs (cxOf (L2.CX P w) P w K mg base N x (defScope st) f cdv A outer s H E) g B E rest m)
    (hspec : ∀ l : List Int, l.length ≤ 63 → m ((.sh (.scr l) :: List.replicate (N.length - 1) .un).set i (.sh .drw)) { nx := fun _ => False, rt := fun d => d = .bl true }) : FnG P w K mg base (k + 1) f (PySem.W.fnOf x x (defArgs st) (defBody st) (defScope st) .none kV doc pm an cdv ct) 1 ["script"] (spLw K mg T) := by
  have one : ∀ vs H Q E, spLw K mg T vs H Q E → vs.length = 1 := fun vs H Q E h => by
    obtain ⟨v, l, S, rfl, _⟩ := h
    rfl
  refine ⟨rfl, one, fun A outer s H args us vs Q E hr hg e0 bd rv q => ?_⟩
  refine LamX.run_ofS (N := N) lk hc Sc hr e0 bd rv (one _ _ _ _ q) fun hr2 => ?_
  obtain ⟨v, l, S, rfl, rl, hlen, fr, kq⟩ := q
  have cx0 : CxK T k (cxOf (L2.CX P w) P w K mg base N x (defScope st) f cdv A outer s H E) (g0 T) E := cxk_of hr2 rfl hg
  rw [hbd]
  refine ⟨_, pss_cons (ps_set (i := i) Sc.nd hNi hl (pe_sp Fb h2 h3 hm cx0 hgb (pa_cons (pe_var (i := 0) hN0 hv (by decide) (by decide)) pa_nil (st_one rfl)) hdb) (hs A outer s H E) (hf A outer s H E))
    (dss_any (T := T) (k := k) fun g B c => hrest A outer s H E g B c), ?_⟩
  refine ⟨_, rfl, ⟨rfl, v, l, S, rfl, rl, hlen, fr, fun g1 u S1 H1 ht f1 ex rd => ?_⟩⟩
  have cx1 : CxK T k (cxOf (L2.CX P w) P w K mg base N x (defScope st) f cdv A outer s H E) g1 E := cxk_of hr2 ht hg
  have len := Sc.nd
  have rs : Rep K mg g1 S1 (.scr l) v := by
    have z := rl.mono ex
    unfold Rep at z ⊢
    exact z
  have o1 := ok_start (N := N) f1 (Reps.cons rs Reps.nil)
  refine ⟨g1, (S1, H1), cx1, _, S1, _, o1.set i rd, hspec l hlen, fun _ _ _ _ z => z.elim, fun d v2 S2 H2 q2 f2 r2 => ?_, fun _ _ _ _ z => z.elim, fun _ _ _ _ z => z.elim, fun _ _ _ _ _ z => z.elim⟩
  subst q2
  unfold Rep at r2
  subst r2
  exact kq H2
end
/-! ### what is raised is kept: the def _law_caught -/
structure Cau (K : PySem.W.Frag) (mg : Str → Option Value) (base : Heap) (T : List (Addr × Str)) (st : Stmt) (cA PA : Addr) (q : Str) (sub : Str → Bool) : Prop where
  ex : ∃ (gA CS : Addr) (fd : FuncData), mg "_law_caught" = some (.ref gA) ∧ Fun K "_law_caught" "_law_caught" st gA fd ∧ Binds K fd ["work"] [] ∧ mg "LotError" = some (.ref CS) ∧ ∀ cx Cx, sub cx = true → mg cx = some (.ref Cx) → PySem.W.exmOne K (.ref Cx) (.ref CS) = some true
  kb : KeepBody st "work" "caught" "LotError" "error"
  tb : LamX.TabB base mg cA PA
  mem : (PA, q) ∈ T
  uq : ∀ p ∈ T, p.1 = PA → p.2 = q
theorem de_cau {X : Cx} {g : Gd} {B : Hp × Hp} {E : XK} {T : List (Addr × Str)} {n : Nat} {st : Stmt} {cA PA : Addr} {sub : Str → Bool} {q : Str} {params : Arguments} {body : Expr} {scope : Scope} {p lpos pos : Pos} {mb : EM} (C : Cau X.K X.mg X.base T st cA PA q sub) (c : CxK T (n + 2) X g E) (hg : Gl X "_law_caught")
    (hcode : X.env.code = .ref cA) (L : LamX.LamS X.env.scope scope) (hdef : defaultsOf params X.env = ([], []))
    (hbind : ∀ (q : Str) (cl : List (Str × Addr)) (pm cv ctv : Value), bindArgs (PySem.W.kla_fn "<lambda>" q params body scope cl pm cv ctv) ⟨[], []⟩ = pure [])
    (hbody : ∀ (A : Around) (outer : List Env) (s : Shared) (H : Hp) (E' : XK) (f c' : Addr) (B' : Hp × Hp), CxK T n (LamX.lamCx X A outer s H E' scope f c') g E' → DE (LamX.lamCx X A outer s H E' scope f c') g B' E' body mb)
    (hq : X.env.qual ++ "<lambda>" = q := by rfl) : DE X g B E (.Call (.Name "_law_caught" p) [.Lambda params body scope lpos] [] pos) (eCa sub mb) := by
  obtain ⟨gA, CS, fd, h1, h2, h3, h4, h5⟩ := C.ex
  subst hq
  exact de_caught c hg h1 h2 h3 C.kb h4 h5 C.tb hcode C.mem C.uq L hdef hbind hbody
/-- the law's promise holds at the start of its call -/
theorem spLw_start {K : PySem.W.Frag} {mg : Str → Option Value} {T : List (Addr × Str)} {ts : List Addr} {a : Addr} {known : Bool} {ob : Obj} {ns : List Int} {E : XK} (hT : ∀ p ∈ T, p.1 ∈ ts) (ha : a ∉ ts) (hl : ns.length ≤ 63) (seq : SqL K (startH ts a known ob (ns.map V.int)) a (ns.map V.int)) :
    spLw K mg T [.ref a] (startH ts a known ob (ns.map V.int)) (fun v _ => v = .bl true) E := by
  obtain ⟨S, hS⟩ : ∃ S : Hp, S = fun b => if b = a ∧ known = false then some (.frz ob (.lst (ns.map V.int))) else none := ⟨_, rfl⟩
  have sub : ∀ b o, S b = some o → startH ts a known ob (ns.map V.int) b = some o ∧ o = .frz ob (.lst (ns.map V.int)) := fun b o e => by
    rw [hS] at e
    have e2 : (if b = a ∧ known = false then some (HO.frz ob (.lst (ns.map V.int))) else none) = some o := e
    by_cases q : b = a ∧ known = false
    · rw [if_pos q] at e2
      rw [q.1, ← Option.some.inj e2]
      exact ⟨startH_at ha q.2, rfl⟩
    · rw [if_neg q] at e2
      cases e2
  refine ⟨.ref a, ns, S, rfl, ?_, hl, ⟨Ex.rf _, fun b o e => .inl (sub b o e).1, fun _ _ z _ _ => z, fun _ z => Nn.of z, fun _ _ z => .inl z, trivial, fun b hb => (by cases hb), fun p hp => ⟨#[], startH_tab (hT p hp), by trivial, fun pos cv z => (by cases z)⟩, fun b ps e => ?_, fun b o z => (by cases z)⟩, fun _ => rfl⟩
  · unfold Rep
    refine ⟨a, rfl, ?_⟩
    rcases seq with (z | ⟨o, z⟩) | z
    · rcases startH_some z with ⟨h1, _⟩ | ⟨_, _, _, h4⟩
      · exact absurd h1 ha
      · cases h4
    · rcases startH_some z with ⟨h1, _⟩ | ⟨_, _, h3, h4⟩
      · exact absurd h1 ha
      · refine .inl (.inr ⟨ob, ?_⟩)
        rw [hS]
        exact if_pos ⟨rfl, h3⟩
    · exact .inr z
  · have z := (sub b _ e).2
    cases z
end DL

set_option Elab.async false
set_option linter.all false
set_option maxRecDepth 100000
set_option maxHeartbeats 2000000
/-! DN: what the top leaves, told by one Bool over what its names reach. -/
namespace DL
open PySem PySem.Spec PyProof.Rows L2

/-! ### an own exception with super().__init__ -/
def scopeB (sc : Scope) (y : Str) : Bool := (match sc.kind with
    | .function => true
    | _ => false) && (!sc.isCoroutine && (!sc.isGenerator && (sc.names.all (fun q => match q.2 with
    | .cell => false
    | _ => true) && ((match sc.names.lookup ("self" : Str) with
    | some .local => true
    | _ => false) && ((match sc.names.lookup y with
    | some .local => true
    | _ => false) && ((match sc.names.lookup ("super" : Str) with
    | some .globalImplicit => true
    | _ => false) && (match sc.names.lookup ("__class__" : Str) with
    | some .free => true
    | _ => false)))))))
theorem and_t {a b : Bool} (h : (a && b) = true) : a = true ∧ b = true := Bool.and_eq_true_iff.mp h
theorem scopeB_ok {sc : Scope} {y : Str} (h : scopeB sc y = true) : sc.kind = .function ∧ sc.isCoroutine = false ∧ sc.isGenerator = false ∧ (∀ x ∈ sc.names, x.2 ≠ .cell) ∧ sc.names.lookup ("self" : Str) = some .local ∧ sc.names.lookup y = some .local ∧
    sc.names.lookup ("super" : Str) = some .globalImplicit ∧ sc.names.lookup ("__class__" : Str) = some .free := by
  obtain ⟨h1, h⟩ := and_t h
  obtain ⟨h2, h⟩ := and_t h
  obtain ⟨h3, h⟩ := and_t h
  obtain ⟨h4, h⟩ := and_t h
  obtain ⟨h5, h⟩ := and_t h
  obtain ⟨h6, h⟩ := and_t h
  obtain ⟨h7, h8⟩ := and_t h
  refine ⟨?_, by simpa using h2, by simpa using h3, fun x hx z => ?_, ?_, ?_, ?_, ?_⟩
  · split at h1
    · assumption
    · cases h1
  · have q := List.all_eq_true.mp h4 x hx
    rw [z] at q
    cases q
  · split at h5
    · assumption
    · cases h5
  · split at h6
    · assumption
    · cases h6
  · split at h7
    · assumption
    · cases h7
  · split at h8
    · assumption
    · cases h8
/-- the body: super().__init__(text); self.fn = y -/
def bodyB (b : FuncBody) (y fn : Str) : Bool := match b with
  | .stmts [.Expr (.Call (.Attribute (.Call (.Name su p0) [] [] p1) ini p2) [.Constant (.str m) j p3] [] p4) p5, .Assign [.Attribute (.Name se p6) f2 p7] (.Name y2 p8) p9] =>
    decide (su = "super") && (decide (ini = "__init__") && (decide (se = "self") && (decide (f2 = fn) && (decide (y2 = y) && (p2.endLine == p4.line)))))
  | _ => false
theorem bodyB_ok {b : FuncBody} {y fn : Str} (h : bodyB b y fn = true) : ∃ (m : Str) (p0 p1 p2 p3 p4 p5 p6 p7 p8 p9 : Pos) (j : Nat), b = .stmts [.Expr (.Call (.Attribute (.Call (.Name "super" p0) [] [] p1) "__init__" p2) [.Constant (.str m) j p3] [] p4) p5,
      .Assign [.Attribute (.Name "self" p6) fn p7] (.Name y p8) p9] ∧ (p2.endLine == p4.line) = true := by
  unfold bodyB at h
  split at h
  · rename_i su p0 p1 ini p2 m j p3 p4 p5 se p6 f2 p7 y2 p8 p9
    obtain ⟨h1, h⟩ := and_t h
    obtain ⟨h2, h⟩ := and_t h
    obtain ⟨h3, h⟩ := and_t h
    obtain ⟨h4, h⟩ := and_t h
    obtain ⟨h5, h6⟩ := and_t h
    rw [of_decide_eq_true h1, of_decide_eq_true h2, of_decide_eq_true h3, of_decide_eq_true h4, of_decide_eq_true h5]
    exact ⟨m, p0, p1, p2, p3, p4, p5, p6, p7, p8, p9, j, rfl, h6⟩
  · cases h
def parB (a : Arguments) (y : Str) : Bool := match a with
  | ⟨[], [⟨s, none, q1⟩, ⟨y2, none, q2⟩], none, [], [], none, []⟩ => decide (s = "self") && decide (y2 = y)
  | _ => false
theorem parB_ok {a : Arguments} {y : Str} (h : parB a y = true) : ∃ q1 q2 : Pos, a = { posonlyargs := [], args := [⟨"self", none, q1⟩, ⟨y, none, q2⟩], vararg := none, kwonlyargs := [], kw_defaults := [], kwarg := none, defaults := [] } := by
  unfold parB at h
  split at h
  · rename_i s q1 y2 q2
    obtain ⟨h1, h2⟩ := and_t h
    rw [of_decide_eq_true h1, of_decide_eq_true h2]
    exact ⟨q1, q2, rfl⟩
  · cases h
def iniB (K : PySem.W.Frag) (file : Str) (C fI : Addr) (y fn : Str) : Bool := match K.lookup fI with
  | some ⟨_, _, .func fd, _⟩ => bodyB fd.body y fn && ((match fd.defaults with
      | .none => true
      | _ => false) && (parB fd.params y && (scopeB fd.scope y && (decide (fd.globals = mainGlobals) && (decide (fd.builtins = builtinsNs) && ((match fd.closure with
      | [(cn, cc)] => decide (cn = "__class__") && (match K.lookup cc with
        | some ⟨_, _, .cell (some (.ref C2)), _⟩ => decide (C2 = C)
        | _ => false)
      | _ => false) && (match fd.code with
      | .ref cda => PySem.W.codeIn K (.ref cda) fd.qualname && (match K.lookup cda with
        | some ⟨_, _, .fields vs, _⟩ => (match vs[2]? with
          | some (Value.str f _) => file == f
          | _ => false)
        | _ => false)
      | _ => false)))))))
  | _ => false
def clsB (K : PySem.W.Frag) (C : Addr) : Bool := match K.lookup C with
  | some ⟨.type t, _, .cls cd, sl⟩ => (match cd.mro, sl.toList with
    | .ref C2 :: bm, [_, _, _, _, some (.builtin n), _] => decide (t = "type") && (decide (C2 = C) && (decide (n = "ValueError.__new__") && (!cd.hasDel && (cd.hasDict && PySem.HandSPX.refsVE bm))))
    | _, _ => false)
  | _ => false
theorem clsB_ok {K : PySem.W.Frag} {C : Addr} (h : clsB K C = true) : ∃ nm q N bs bm sn sub ab col dd k0 k1 k2 k3 k5, K.lookup C = some (excClassObj nm q C N bs bm true sn sub ab col dd k0 k1 k2 k3 k5 "ValueError.__new__") ∧ PySem.HandSPX.refsVE bm = true := by
  unfold clsB at h
  split at h
  · rename_i t dd cd sl hl
    split at h
    · rename_i C2 bm k0 k1 k2 k3 n k5 hm hs
      obtain ⟨h1, h⟩ := and_t h
      obtain ⟨h2, h⟩ := and_t h
      obtain ⟨h3, h⟩ := and_t h
      obtain ⟨h4, h⟩ := and_t h
      obtain ⟨h5, h6⟩ := and_t h
      have e1 := of_decide_eq_true h1
      have e2 := of_decide_eq_true h2
      have e3 := of_decide_eq_true h3
      subst e1 e2 e3
      obtain ⟨nm, bs, mro, ns, qn, hd, sn, sub, ab, col, del⟩ := cd
      dsimp only at hm h4 h5
      have e4 : del = false := by simpa using h4
      subst hm h5 e4
      have hsl : sl = #[k0, k1, k2, k3, some (.builtin "ValueError.__new__"), k5] := by
        obtain ⟨l⟩ := sl
        dsimp only at hs
        rw [hs]
      subst hsl
      exact ⟨nm, qn, ns, bs, bm, sn, sub, ab, col, dd, k0, k1, k2, k3, k5, hl, h6⟩
    · cases h
  · cases h
def supB (K : PySem.W.Frag) (file : Str) (C fI : Addr) (y fn : Str) : Bool := clsB K C && (iniB K file C fI y fn && (He.eqO (PySem.W.findIn K (.ref C) "__init__") (some (some (.ref fI))) && (decide (PySem.W.typeIn K (.ref fI) = some (.type "function")) &&
  (He.eqO (PySem.W.findIn K (.ref C) "__setattr__") (some (some (.builtin "object.__setattr__"))) && (decide (PySem.W.subIn K (.ref C) (.type "BaseException") = some true) && (decide (PySem.W.subIn K (.ref C) (.type "ValueError") = some true) && (decide (PySem.W.subIn K (.ref C) (.ref C) = some true) &&
  (decide (PySem.W.typeIn K (.ref C) = some (.type "type")) && (PySem.W.keepIn K (.ref C) && (He.eqO (PySem.W.findIn K (.ref C) fn) (some none) && (He.eqO (PySem.W.nsIn K PySem.cStatics "thirdparty.any") (some none) && He.eqO (PySem.W.ks_superIn K C C "__init__") (some (some (.builtin "ValueError.__init__"))))))))))))))
theorem sup_ok {P : Program} {K : PySem.W.Frag} {mg : Str → Option Value} {C fI : Addr} {y fn : Str} (h : supB K (P.main.file : Str) C fI y fn = true) (msu : mg "super" = none) (top : (P.main.scope.names.lookup ("super" : Str)).isSome = false)
    (ny : (y == ("self" : Str)) = false ∧ (y == ("__debug__" : Str)) = false ∧ (fn == ("__class__" : Str)) = false)
    (hb : ∀ (name qual : Str) (body : List Stmt) (scope : Scope) (kV doc pm : Value) (an : Option Addr) (cdv ct : Value) (cc : Addr) (q1 q2 : Pos) (a b : Value), bindArgs (PySem.W.ksFn name qual { posonlyargs := [], args := [⟨"self", none, q1⟩, ⟨y, none, q2⟩], vararg := none, kwonlyargs := [], kw_defaults := [], kwarg := none, defaults := [] } body scope .none kV doc pm an cdv ct cc) ⟨[a, b], []⟩ = pure [(("self" : Str), a), (y, b)]) : SupC P K mg C fI y fn := by
  obtain ⟨a1, h⟩ := and_t h
  obtain ⟨a2, h⟩ := and_t h
  obtain ⟨a3, h⟩ := and_t h
  obtain ⟨a4, h⟩ := and_t h
  obtain ⟨a5, h⟩ := and_t h
  obtain ⟨a6, h⟩ := and_t h
  obtain ⟨a7, h⟩ := and_t h
  obtain ⟨a8, h⟩ := and_t h
  obtain ⟨a9, h⟩ := and_t h
  obtain ⟨a10, h⟩ := and_t h
  obtain ⟨a11, h⟩ := and_t h
  obtain ⟨a12, a13⟩ := and_t h
  refine ⟨clsB_ok a1, He.eqO_ok a3, of_decide_eq_true a4, He.eqO_ok a5, of_decide_eq_true a6, of_decide_eq_true a7, of_decide_eq_true a8, of_decide_eq_true a9, a10, He.eqO_ok a11, He.eqO_ok a12, He.eqO_ok a13, msu, top, ?_, ny⟩
  unfold iniB at a2
  split at a2
  · rename_i oc od fd osl hl
    obtain ⟨name, qual, params, body, scope, gl, clo, dV, kV, doc, pm, an, cdv, ct, bi⟩ := fd
    dsimp only at a2
    obtain ⟨b1, z1⟩ := and_t a2
    obtain ⟨b0, z2⟩ := and_t z1
    have e0 : dV = .none := by
      split at b0
      · rfl
      · cases b0
    subst e0
    obtain ⟨b2, z3⟩ := and_t z2
    obtain ⟨b3, z4⟩ := and_t z3
    obtain ⟨b4, z5⟩ := and_t z4
    obtain ⟨b5, z6⟩ := and_t z5
    obtain ⟨b6, b7⟩ := and_t z6
    obtain ⟨m, p0, p1, p2, p3, p4, p5, p6, p7, p8, p9, j, rfl, hline⟩ := bodyB_ok b1
    obtain ⟨q1, q2, rfl⟩ := parB_ok b2
    obtain ⟨s1, s2, s3, s4, s5, s6, s7, s8⟩ := scopeB_ok b3
    have e4 := of_decide_eq_true b4
    have e5 := of_decide_eq_true b5
    subst e4 e5
    split at b6
    · rename_i cn cc
      obtain ⟨c1, c2⟩ := and_t b6
      have e6 := of_decide_eq_true c1
      subst e6
      split at c2
      · rename_i cl cld C2 csl hcc
        have e7 := of_decide_eq_true c2
        subst e7
        split at b7
        · rename_i cda
          obtain ⟨d1, d2⟩ := and_t b7
          split at d2
          · rename_i ccl cdd vs ccs hcd
            split at d2
            · rename_i f tf hf
              refine ⟨name, qual, m, _, q1, q2, p0, p1, p2, p3, p4, p5, p6, p7, p8, p9, j, scope, .none, kV, doc, pm, an, cda, cc, ct, oc, cl, ccl, od, cld, cdd, osl, csl, ccs, vs, f, tf, hl, rfl, d1, hcd, hf, d2, hcc, s1, s2, s3, s4, s5, s6, s7, s8, fun a b => ?_, fun env => ⟨plainOf (.Call (.Name "super" p0) [] [] p1) env, ?_⟩⟩
              · exact hb _ _ _ _ _ _ _ _ _ _ _ _ _ a b
              · have e : ∀ ov : Value, methodCall (.Call (.Name "super" p0) [] [] p1) "__init__" p2 p4 env ov 1 (backTo p4 (starEach [.Constant (.str m) j p3] env)) [] = (do
                    let (f, first) ← holding [ov] (getMethod ov "__init__" (plainOf (.Call (.Name "super" p0) [] [] p1) env))
                    callWith p4 f first (backTo p4 (starEach [.Constant (.str m) j p3] env)) []) := fun ov => mcall_line rfl hline
                simp only [← e]
                rfl
            · cases d2
          · cases d2
        · cases b7
      · cases c2
    · cases b6
  · cases a2
theorem bind_part (name qual : Str) (body : List Stmt) (scope : Scope) (kV doc pm : Value) (an : Option Addr) (cdv ct : Value) (cc : Addr) (q1 q2 : Pos) (a b : Value) : bindArgs (PySem.W.ksFn name qual { posonlyargs := [], args := [⟨"self", none, q1⟩, ⟨"part", none, q2⟩], vararg := none, kwonlyargs := [], kw_defaults := [], kwarg := none, defaults := [] } body scope .none kV doc pm an cdv ct cc) ⟨[a, b], []⟩ = pure [(("self" : Str), a), ("part", b)] := rfl
theorem bind_name (name qual : Str) (body : List Stmt) (scope : Scope) (kV doc pm : Value) (an : Option Addr) (cdv ct : Value) (cc : Addr) (q1 q2 : Pos) (a b : Value) : bindArgs (PySem.W.ksFn name qual { posonlyargs := [], args := [⟨"self", none, q1⟩, ⟨"name", none, q2⟩], vararg := none, kwonlyargs := [], kw_defaults := [], kwarg := none, defaults := [] } body scope .none kV doc pm an cdv ct cc) ⟨[a, b], []⟩ = pure [(("self" : Str), a), ("name", b)] := rfl
theorem bind_at (name qual : Str) (body : List Stmt) (scope : Scope) (kV doc pm : Value) (an : Option Addr) (cdv ct : Value) (cc : Addr) (q1 q2 : Pos) (a b : Value) : bindArgs (PySem.W.ksFn name qual { posonlyargs := [], args := [⟨"self", none, q1⟩, ⟨"at", none, q2⟩], vararg := none, kwonlyargs := [], kw_defaults := [], kwarg := none, defaults := [] } body scope .none kV doc pm an cdv ct cc) ⟨[a, b], []⟩ = pure [(("self" : Str), a), ("at", b)] := rfl
theorem bind_most (name qual : Str) (body : List Stmt) (scope : Scope) (kV doc pm : Value) (an : Option Addr) (cdv ct : Value) (cc : Addr) (q1 q2 : Pos) (a b : Value) : bindArgs (PySem.W.ksFn name qual { posonlyargs := [], args := [⟨"self", none, q1⟩, ⟨"most", none, q2⟩], vararg := none, kwonlyargs := [], kw_defaults := [], kwarg := none, defaults := [] } body scope .none kV doc pm an cdv ct cc) ⟨[a, b], []⟩ = pure [(("self" : Str), a), ("most", b)] := rfl
/-! ### facts -/
def xckB (K : PySem.W.Frag) (C : Addr) : Bool := (PySem.W.clsIn K C).isSome && (PySem.W.hasDictIn K C && (He.eqO (PySem.W.findIn K (.ref C) "__getattribute__") (some (some (.builtin "BaseException.__getattribute__"))) && (He.eqO (PySem.W.findIn K (.ref C) "__getattr__") (some none) &&
  (decide (PySem.W.subIn K (.ref C) (.type "BaseException") = some true) && (He.eqO (PySem.W.findIn K (.ref C) "__class__") (some (some (.builtin "object.__class__"))) && (He.eqO (PySem.W.specialIn K (.builtin "object.__class__") "__get__") (some (some (.builtin "getset_descriptor.__get__"))) &&
  (decide (PySem.W.takesIn K (.builtin "object.__class__") = some true) && decide (PySem.W.mroIn K C (.type "object") = some true))))))))
theorem xck_ok {K : PySem.W.Frag} {C : Addr} (h : xckB K C = true) : XcK K C := by
  obtain ⟨a1, h⟩ := and_t h
  obtain ⟨a2, h⟩ := and_t h
  obtain ⟨a3, h⟩ := and_t h
  obtain ⟨a4, h⟩ := and_t h
  obtain ⟨a5, h⟩ := and_t h
  obtain ⟨a6, h⟩ := and_t h
  obtain ⟨a7, h⟩ := and_t h
  obtain ⟨a8, a9⟩ := and_t h
  exact ⟨a1, a2, He.eqO_ok a3, He.eqO_ok a4, of_decide_eq_true a5, He.eqO_ok a6, He.eqO_ok a7, of_decide_eq_true a8, of_decide_eq_true a9⟩
/-- a fact of the top -/
inductive Fx where
  | fa (f : He.Fa)
  | bi (x : Str) (id : String)
  | kit (t : String) (c : Str) (b : Bool)
  | kie (x c : Str) (b : Bool)
  | xck (x : Str)
  | nof (x f : Str)
  | sup (file x y fn : Str)
  | exm (x c : Str) (b : Bool)
def Fx.ok (K : PySem.W.Frag) : Fx → Bool
  | .fa f => f.ok K
  | .bi x id => He.eqO (PySem.W.nsIn K mainGlobals x) (some (some (.builtin id)))
  | .kit t c b => decide (PySem.W.kitOne K (.type t) (.ref (He.ga K c)) = some b)
  | .kie x c b => decide (PySem.W.kitOne K (.ref (He.ga K x)) (.ref (He.ga K c)) = some b)
  | .xck x => xckB K (He.ga K x)
  | .nof x f => He.eqO (PySem.W.findIn K (.ref (He.ga K x)) f) (some none)
  | .sup file x y fn => supB K file (He.ga K x) (He.ma K (He.ga K x) "__init__") y fn
  | .exm x c b => decide (PySem.W.exmOne K (.ref (He.ga K x)) (.ref (He.ga K c)) = some b)
/-! ### the Hook -/
def refsL (o : Obj) : List Addr := He.refsD o ++ (match o.data with
  | .func fd => fd.closure.map (·.2)
  | .cell (some v) => He.refV v
  | _ => [])
def growL (g : Addr → Option Obj) (as : List Addr) : List Addr := (as ++ as.flatMap fun a => match g a with
  | some o => refsL o
  | none => []).eraseDups
def asL (g : Addr → Option Obj) : Nat → List Addr
  | 0 => [mainGlobals, PySem.cStatics]
  | n + 1 => growL g (asL g n)
abbrev AlL : Type := Bool × List He.FnV
def obsL (n : Nat) (fx : List Fx) (fn : List He.FnD) (tf : List He.Defn) (g : Addr → Option Obj) : AlL :=
  ((fx.all fun f => f.ok (He.frT g (asL g n))) && He.tabsB g tf (He.frT g (asL g n)), fn.map fun d => He.fnObs (He.frT g (asL g n)) d.at_)
def valL (fn : List He.FnD) : AlL := (true, fn.map He.FnD.val)
structure SaysL (fx : List Fx) (fn : List He.FnD) (tf : List He.Defn) (h : Heap) (K : PySem.W.Frag) : Prop where
  facts : (fx.all fun f => f.ok K) = true
  defs : fn.map (fun d => He.fnObs K d.at_) = fn.map He.FnD.val
  hd : ∀ p ∈ tf, PySem.W.codeHdIn K (He.cT K p).1 (He.cT K p).2 = true
  out : ∀ p ∈ tf, K.lookup (He.cT K p).2 = none
  empty : ∀ p ∈ tf, h.get? (He.cT K p).2 = some { cls := .none, data := .fields #[] }
theorem saysL_of {n : Nat} {fx : List Fx} {fn : List He.FnD} {tf : List He.Defn} {h : Heap} (e : obsL n fx fn tf h.get? = valL fn) : SaysL fx fn tf h (He.frT h.get? (asL h.get? n)) := by
  have e1 : ((fx.all fun f => f.ok (He.frT h.get? (asL h.get? n))) && He.tabsB h.get? tf (He.frT h.get? (asL h.get? n))) = true := congrArg (fun z : AlL => z.1) e
  have e2 : (fn.map fun d => He.fnObs (He.frT h.get? (asL h.get? n)) d.at_) = fn.map He.FnD.val := congrArg (fun z : AlL => z.2) e
  obtain ⟨h1, h2⟩ := and_t e1
  have key : ∀ p ∈ tf, PySem.W.codeHdIn (He.frT h.get? (asL h.get? n)) (He.cT (He.frT h.get? (asL h.get? n)) p).1 (He.cT (He.frT h.get? (asL h.get? n)) p).2 = true ∧ ∃ o, h.get? (He.cT (He.frT h.get? (asL h.get? n)) p).2 = some o ∧ He.emptyTab o = true := fun p hp => by
    obtain ⟨h3, h4⟩ := and_t (List.all_eq_true.mp h2 p hp)
    refine ⟨h3, ?_⟩
    split at h4
    · rename_i o q
      exact ⟨o, q, h4⟩
    · cases h4
  refine ⟨h1, e2, fun p hp => (key p hp).1, fun p hp => ?_, fun p hp => ?_⟩
  · obtain ⟨_, o, q, z⟩ := key p hp
    exact He.frT_none q z
  · obtain ⟨_, o, q, z⟩ := key p hp
    rw [q, He.emptyTab_eq z]
def hookL (n : Nat) (fx : List Fx) (fn : List He.FnD) (tf : List He.Defn) : PySem.W.Hook where
  α := AlL
  obs := fun s => obsL n fx fn tf s.heap.get?
  val := fun _ => valL fn
  says := fun _ h => ∃ K : PySem.W.Frag, K.In h ∧ SaysL fx fn tf h K
  of := fun _ _ e => ⟨_, He.frT_in, saysL_of e⟩
  keeps := fun _ _ _ ⟨K, hK, c⟩ k => ⟨K, PySem.W.Frag.In.keeps hK k, ⟨c.facts, c.defs, c.hd, c.out, fun p hp => k _ _ (c.empty p hp)⟩⟩
theorem obsL_eq {n : Nat} {fx : List Fx} {fn : List He.FnD} {tf : List He.Defn} {g : Addr → Option Obj} {s : Shared} (h : ∀ a, g a = s.heap.get? a) : obsL n fx fn tf g = (hookL n fx fn tf).obs s := by
  have e : g = s.heap.get? := funext h
  rw [e] <;> rfl
section
variable {fx : List Fx} {fn : List He.FnD} {tf : List He.Defn} {h : Heap} {K : PySem.W.Frag}
theorem SaysL.fact (c : SaysL fx fn tf h K) (i : Nat) {f : Fx} (e : fx[i]? = some f := by rfl) : f.ok K = true := List.all_eq_true.mp c.facts f (List.mem_of_getElem? e)
/-- a def of the module: its three facts, its look -/
def defFx (x : Str) : List Fx := [.fa (.glo x), .fa (.keep x), .fa (.code (x, none) x)]
def defFn (x : Str) (st : Stmt) : He.FnD := ⟨(x, none), x, x, defArgs st, defBody st, defScope st⟩
theorem SaysL.defF {mg : Str → Option Value} (c : SaysL fx fn tf h K) (X : K.In h) (G : h.Ns mainGlobals mg) {x : Str} {st : Stmt} (i j : Nat) (e1 : fx[i]? = some (.fa (.glo x)) := by rfl) (e2 : fx[i + 1]? = some (.fa (.keep x)) := by rfl) (e3 : fx[i + 2]? = some (.fa (.code (x, none) x)) := by rfl) (e4 : fn[j]? = some (defFn x st) := by rfl) :
    mg x = some (.ref (He.ga K x)) ∧ PySem.W.keepIn K (.ref (He.ga K x)) = true ∧ ∃ oc od osl kV doc pm an cdv ct, K.lookup (He.ga K x) = some ⟨oc, od, .func (PySem.W.fnOf x x (defArgs st) (defBody st) (defScope st) .none kV doc pm an cdv ct), osl⟩ ∧ PySem.W.codeIn K cdv x = true := by
  have h1 : (He.Fa.glo x).ok K = true := c.fact i e1
  have h2 : (He.Fa.keep x).ok K = true := c.fact (i + 1) e2
  have h3 : (He.Fa.code (x, none) x).ok K = true := c.fact (i + 2) e3
  have ed := c.defs
  have e5 : (fn.map fun d => He.fnObs K d.at_)[j]? = (fn.map He.FnD.val)[j]? := by rw [ed]
  rw [List.getElem?_map, List.getElem?_map, e4] at e5
  exact ⟨He.glo_ok X G h1, h2, He.fn_ok (d := defFn x st) (Option.some.inj e5) h3⟩
theorem SaysL.defFF {mg : Str → Option Value} (c : SaysL fx fn tf h K) (X : K.In h) (G : h.Ns mainGlobals mg) {x : Str} {st : Stmt} (i j : Nat) (e1 : fx[i]? = some (.fa (.glo x)) := by rfl) (e2 : fx[i + 1]? = some (.fa (.keep x)) := by rfl) (e3 : fx[i + 2]? = some (.fa (.code (x, none) x)) := by rfl) (e4 : fn[j]? = some (defFn x st) := by rfl) : DefF K mg x st := by
  obtain ⟨h1, h2, oc, od, osl, kV, doc, pm, an, cdv, ct, h3, h4⟩ := c.defF X G (st := st) i j e1 e2 e3 e4
  exact ⟨_, _, h1, fun_mk h3 h4 h2⟩
end
end DL

set_option Elab.async false
set_option linter.all false
set_option maxRecDepth 100000
set_option maxHeartbeats 4000000
namespace DL
open PySem PySem.Spec PyProof.Rows L2
section
variable {X : Cx} {g : Gd} {B : Hp × Hp} {E : XK} {pos p2 : Pos} {j : Nat}
theorem de_gx {x : Str} {i : Int} (hm : ∃ t, X.mg x = some (.int i t)) (hg : Gl X x) (hd : (x == ("__debug__" : Str)) = false := by decide) : DE X g B E (.Name x pos) (eC (.int i)) := by
  obtain ⟨t, h⟩ := hm
  exact de_gi hg h hd
theorem de_neg {i : Int} : DE X g B E (.UnaryOp .USub (.Constant (.int i) j p2) pos) (eC (.int (-i))) := by
  refine pe_imp (pe_un un_neg pe_int) fun σ H Q h => ?_
  obtain ⟨env, S, P, Z, ok, hm, k, kx⟩ := h
  exact ⟨i, rfl, k (.int (-i)) _ S H hm ok (Ex.rf _) (ri _ S)⟩
end
/-! ### cascades -/
def bin : Nat → Nat → Nat
  | _, 0 => 1
  | 0, _ + 1 => 0
  | n + 1, k + 1 => bin n k + bin n (k + 1)
def Ch (n k : Int) : Int := if k < 0 ∨ n < k then 0 else (bin n.toNat k.toNat : Int)
def gpF (number size : Nat) : Nat → Nat → Nat
  | 0, a => a
  | f + 1, a => if bin (a + 1) size ≤ number then gpF number size f (a + 1) else a
def gp (number size : Nat) : Nat := gpF number size (number + 1) size
def casc : Nat → Nat → List (Nat × Nat)
  | 0, _ => []
  | s + 1, n => if n = 0 then [] else (gp n (s + 1), s + 1) :: casc s (n - bin (gp n (s + 1)) (s + 1))
def cascD (s n : Nat) : List D := (casc s n).map fun p => .tup [.int p.1, .int p.2]
def shadowN (s n : Nat) : Nat := ((casc s n).map fun p => bin p.1 (p.2 - 1)).sum
def raisedN (s n : Nat) : Nat := ((casc s n).map fun p => bin p.1 (p.2 + 1)).sum
def grownN (s n : Nat) : Nat := ((casc s n).map fun p => bin (p.1 + 1) (p.2 + 1)).sum
end DL
namespace K41
open PySem PySem.Spec PyProof.Rows L2 DL
def top (i : Nat) : Stmt := PySem.Challenge.pw_lotsclosed_k41_whole_cascades.main.body.getD i (.Pass ⟨0, 0, 0, 0⟩)
def v_MOST_NUMBER : Int := 1000000000000000000000000000000
def v_MOST_SIZE : Int := 40
def v_BIG : Int := 1606938044258990275541962092341162602522202993782792835301376
/-- a whole number within bounds -/
def good (d : D) (lo hi : Int) : Bool := match d with
  | .int i => decide (lo ≤ i ∧ i ≤ hi)
  | _ => false
def F_is_number : List D → W D := fun ds P _ => match ds with
  | [d] => tyN d ≠ none ∧ P (.bl (match d with
    | .int _ => true
    | _ => false))
  | _ => False
def F_is_between : List D → W D := fun ds P _ => match ds with
  | [d, .int lo, .int hi] => tyN d ≠ none ∧ P (.bl (good d lo hi))
  | _ => False
def F_need_between : List D → W D := fun ds P Z => match ds with
  | [d, .int lo, .int hi, .str part] => tyN d ≠ none ∧ if good d lo hi = true then P .non else Z (.exc "BadNumber" ["part"] [.str part])
  | _ => False
def F_choices_many : List D → W D := fun ds P _ => match ds with
  | [.int n, .int k] => (n < v_BIG ∧ k ≤ 60) ∧ P (.int (Ch n k))
  | _ => False
def F_greatest_points : List D → W D := fun ds P _ => match ds with
  | [.int n, .int k] => (1 ≤ n ∧ n ≤ v_MOST_NUMBER ∧ 1 ≤ k ∧ k ≤ v_MOST_SIZE) ∧ P (.int (gp n.toNat k.toNat))
  | _ => False
def F_cascade_told : List D → W D := fun ds P _ => match ds with
  | [.int n, .int k] => (0 ≤ n ∧ n ≤ v_MOST_NUMBER ∧ 1 ≤ k ∧ k ≤ v_MOST_SIZE) ∧ P (.lst (cascD k.toNat n.toNat))
  | _ => False
def F_shadow_told : List D → W D := fun ds P _ => match ds with
  | [.int n, .int k] => (0 ≤ n ∧ n ≤ v_MOST_NUMBER ∧ 1 ≤ k ∧ k ≤ v_MOST_SIZE) ∧ P (.int (shadowN k.toNat n.toNat))
  | _ => False
def F_raised_told : List D → W D := fun ds P _ => match ds with
  | [.int n, .int k] => (0 ≤ n ∧ n ≤ v_MOST_NUMBER ∧ 1 ≤ k ∧ k ≤ v_MOST_SIZE) ∧ P (.int (raisedN k.toNat n.toNat))
  | _ => False
def F_grown_told : List D → W D := fun ds P _ => match ds with
  | [.int n, .int k] => (0 ≤ n ∧ n ≤ v_MOST_NUMBER ∧ 1 ≤ k ∧ k ≤ v_MOST_SIZE) ∧ P (.int (grownN k.toNat n.toNat))
  | _ => False
/-- the two arguments are judged, the first one first -/
def need (a b : D) (p : W D) : W D := fun P Z => (tyN a ≠ none ∧ (good a 0 v_MOST_NUMBER = true → tyN b ≠ none)) ∧ if good a 0 v_MOST_NUMBER = true then (if good b 1 v_MOST_SIZE = true then p P Z else Z (.exc "BadNumber" ["part"] [.str "size"])) else Z (.exc "BadNumber" ["part"] [.str "number"])
def F_need_both : List D → W D := fun ds P Z => match ds with
  | [a, b] => need a b (fun P _ => P .non) P Z
  | _ => False
def F_cascade : List D → W D := fun ds P Z => match ds with
  | [a, b] => need a b (fun P _ => match a, b with
    | .int n, .int k => P (.tup (cascD k.toNat n.toNat))
    | _, _ => False) P Z
  | _ => False
def F_shadow_many : List D → W D := fun ds P Z => match ds with
  | [a, b] => need a b (fun P _ => match a, b with
    | .int n, .int k => P (.int (shadowN k.toNat n.toNat))
    | _, _ => False) P Z
  | _ => False
def F_raised_many : List D → W D := fun ds P Z => match ds with
  | [a, b] => need a b (fun P _ => match a, b with
    | .int n, .int k => P (.int (raisedN k.toNat n.toNat))
    | _, _ => False) P Z
  | _ => False
def F_grown : List D → W D := fun ds P Z => match ds with
  | [a, b] => need a b (fun P _ => match a, b with
    | .int n, .int k => P (.int (grownN k.toNat n.toNat))
    | _, _ => False) P Z
  | _ => False
def F_law_mixed : List D → W D := fun ds P _ => ds = [.drw] ∧ ∀ z : Int, 0 ≤ z → P (.int z)
def F_law_take : List D → W D := fun ds P _ => match ds with
  | [.drw, .int n] => (0 < n ∧ n < v_BIG) ∧ ∀ k : Int, 0 ≤ k → k < n → P (.int k)
  | _ => False
def F_law_pick : List D → W D := fun ds P _ => match ds with
  | [.drw, .lst l] => (0 < l.length ∧ l.length < 1000) ∧ ∀ d ∈ l, P d
  | _ => False
def F_law_says : List D → W D := fun ds P _ => match ds with
  | [a, b] => match toPy a, toPy b with
    | some p, some q => ((p.showable = true ∧ p.shown.length ≤ 16777216 ∧ p.depth ≤ 100) ∧ (q.showable = true ∧ q.shown.length ≤ 16777216 ∧ q.depth ≤ 100)) ∧ P (.bl (decide (p.shown = q.shown)))
    | _, _ => False
  | _ => False
def F_law_ten : List D → W D := fun ds P _ => match ds with
  | [.int m] => (0 ≤ m ∧ m ≤ 31) ∧ P (.int (10 ^ m.toNat))
  | _ => False
def F_law_choose : List D → W D := F_choices_many
def F_law_cascade : List D → W D := F_cascade_told
def F_law_shadow : List D → W D := F_shadow_told
def F_law_raised : List D → W D := F_raised_told
def F_law_grown : List D → W D := F_grown_told
def F_law_numbers_bad : List D → W D := fun ds P _ => match ds with
  | [.drw] => ∀ d ∈ [D.non, .int (-1), .bl true, .str "5", .int (10 ^ 30 + 1), .tup [.int 3], .lst []], P d
  | _ => False
def F_law_drawn_number : List D → W D := fun ds P _ => match ds with
  | [.drw] => ∀ z : Int, 0 ≤ z → z ≤ v_MOST_NUMBER → P (.int z)
  | _ => False
def F_law_right : List D → W D := fun ds P _ => match ds with
  | [.int n, .int k] => (0 ≤ n ∧ n ≤ v_MOST_NUMBER ∧ 1 ≤ k ∧ k ≤ v_MOST_SIZE) ∧ P (.bl true)
  | _ => False
def F_law_pair_right : List D → W D := fun ds P _ => match ds with
  | [.drw] => P (.bl true)
  | _ => False
def famW (y : Str) : Option (Nat × (List D → W D)) := if y = "shadow_many" then some (2, F_shadow_many) else if y = "raised_many" then some (2, F_raised_many) else if y = "grown" then some (2, F_grown) else none
def ko (t : String) (c : Str) : Option Bool := if c = "BadNumber" ∧ (t = "NoneType" ∨ t = "int" ∨ t = "tuple") then some false else none
def ke (x c : Str) : Option Bool := if x = "BadNumber" ∧ c = "BadNumber" then some true else none
def okx (x : Str) : Bool := x == "BadNumber"
def subx (x : Str) : Bool := x == "BadNumber"
/-- what the top has written -/
structure Vx (P : Program) (w : World) (K : PySem.W.Frag) (mg : Str → Option Value) (base : Heap) (T : List (Addr × Str)) : Prop where
  b_abs : mg "abs" = none
  b_bool : mg "bool" = none
  b_int : mg "int" = none
  b_isinstance : mg "isinstance" = none
  b_len : mg "len" = none
  b_max : mg "max" = none
  b_min : mg "min" = none
  b_range : mg "range" = none
  b_repr : mg "repr" = none
  b_sum : mg "sum" = none
  b_tuple : mg "tuple" = none
  b_zip : mg "zip" = none
  m_comb : mg "comb" = some (.builtin "math.comb")
  g_MOST_NUMBER : ∃ t, mg "MOST_NUMBER" = some (.int v_MOST_NUMBER t)
  g_MOST_SIZE : ∃ t, mg "MOST_SIZE" = some (.int v_MOST_SIZE t)
  c_BadNumber : ∃ C, mg "BadNumber" = some (.ref C) ∧ ∃ fI, SupC P K mg C fI "part" "part"
  ko : ∀ t c C b, K41.ko t c = some b → mg c = some (.ref C) → PySem.W.kitOne K (.type t) (.ref C) = some b
  ke : ∀ x c Cx Cc b, K41.ke x c = some b → mg x = some (.ref Cx) → mg c = some (.ref Cc) → XcK K Cx ∧ PySem.W.kitOne K (.ref Cx) (.ref Cc) = some b
  okx : ∀ x C, K41.okx x = true → mg x = some (.ref C) → XcK K C ∧ PySem.W.findIn K (.ref C) "part" = some none
  d__law_begun : DefF K mg "_law_begun" (top 23)
  d__law_cascade : DefF K mg "_law_cascade" (top 31)
  d__law_caught : DefF K mg "_law_caught" (top 27)
  d__law_choose : DefF K mg "_law_choose" (top 30)
  d__law_drawn_number : DefF K mg "_law_drawn_number" (top 36)
  d__law_grown : DefF K mg "_law_grown" (top 34)
  d__law_mixed : DefF K mg "_law_mixed" (top 24)
  d__law_numbers_bad : DefF K mg "_law_numbers_bad" (top 35)
  d__law_pair_right : DefF K mg "_law_pair_right" (top 38)
  d__law_pick : DefF K mg "_law_pick" (top 26)
  d__law_raised : DefF K mg "_law_raised" (top 33)
  d__law_right : DefF K mg "_law_right" (top 37)
  d__law_says : DefF K mg "_law_says" (top 28)
  d__law_shadow : DefF K mg "_law_shadow" (top 32)
  d__law_take : DefF K mg "_law_take" (top 25)
  d__law_ten : DefF K mg "_law_ten" (top 29)
  d_cascade : DefF K mg "cascade" (top 18)
  d_cascade_told : DefF K mg "cascade_told" (top 13)
  d_choices_many : DefF K mg "choices_many" (top 11)
  d_greatest_points : DefF K mg "greatest_points" (top 12)
  d_grown : DefF K mg "grown" (top 21)
  d_grown_told : DefF K mg "grown_told" (top 16)
  d_is_between : DefF K mg "is_between" (top 6)
  d_is_number : DefF K mg "is_number" (top 5)
  d_law : DefF K mg "law" (top 39)
  d_need_between : DefF K mg "need_between" (top 7)
  d_need_both : DefF K mg "need_both" (top 17)
  d_raised_many : DefF K mg "raised_many" (top 20)
  d_raised_told : DefF K mg "raised_told" (top 15)
  d_shadow_many : DefF K mg "shadow_many" (top 19)
  d_shadow_told : DefF K mg "shadow_told" (top 14)
section
variable {P : Program} {w : World} {K : PySem.W.Frag} {mg : Str → Option Value} {base : Heap} {T : List (Addr × Str)}
theorem famW_ok {n : Nat} (hn : 5 ≤ n) (f1 : FnD P w K mg base T 5 "shadow_many" (top 19) ["number", "size"] F_shadow_many) (f2 : FnD P w K mg base T 5 "raised_many" (top 20) ["number", "size"] F_raised_many)
    (f3 : FnD P w K mg base T 5 "grown" (top 21) ["number", "size"] F_grown) : ∀ y nF, famW y = some nF → ∃ k st ps, k ≤ n ∧ ps.length = nF.1 ∧ FnD P w K mg base T k y st ps nF.2 := fun y nF e => by
  unfold famW at e
  split at e
  · rename_i h
    subst h
    cases e
    exact ⟨5, _, _, hn, rfl, f1⟩
  · split at e
    · rename_i h
      subst h
      cases e
      exact ⟨5, _, _, hn, rfl, f2⟩
    · split at e
      · rename_i h
        subst h
        cases e
        exact ⟨5, _, _, hn, rfl, f3⟩
      · cases e
theorem sc_is_number : FnScope ["thing"] ["thing"] (defScope (top 5)) := ⟨rfl, rfl, rfl, by decide +kernel, rfl, by decide +kernel, by decide +kernel⟩
def m_is_number : SM := (sRt (eAnd (eA (bIsi ko ke) (aCons (eVar 0) (aCons (eC (.ty "int")) aNil))) (eNot (eA (bIsi ko ke) (aCons (eVar 0) (aCons (eC (.ty "bool")) aNil))))))
theorem k_is_number (V : Vx P w K mg base T)  (i : ∀ ds Q Z, F_is_number ds Q Z → fnW 1 1 m_is_number ds Q Z) : FnD P w K mg base T 1 "is_number" (top 5) ["thing"] F_is_number :=
  fnD_mk V.d_is_number sc_is_number (fun _ _ _ _ _ _ us hl => match us, hl with | [_], _ => rfl) (fun f cdv A outer s H E g B c => by
  unfold m_is_number
  refine dss_one ?_
  refine ds_rt ?_
  refine de_and ?_ ?_
  refine db_isi (bisi_ok V.ko V.ke) V.b_isinstance (by rfl) ?_
  refine da_cons ?_ ?_
  exact de_var (i := 0)
  refine da_cons ?_ ?_
  exact dv_ty V.b_int (by rfl) boot1
  exact da_nil
  refine de_one ?_
  refine de_not ?_
  refine db_isi (bisi_ok V.ko V.ke) V.b_isinstance (by rfl) ?_
  refine da_cons ?_ ?_
  exact de_var (i := 0)
  refine da_cons ?_ ?_
  exact dv_ty V.b_bool (by rfl) boot2
  exact da_nil) i
theorem sc_is_between : FnScope ["thing", "low", "high"] ["thing", "low", "high"] (defScope (top 6)) := ⟨rfl, rfl, rfl, by decide +kernel, rfl, by decide +kernel, by decide +kernel⟩
def m_is_between : SM := (sRt (eAnd (eF 1 F_is_number (aCons (eVar 0) aNil)) (eCh dLe dLe (eVar 1) (eVar 0) (eVar 2))))
theorem k_is_between (V : Vx P w K mg base T) (f_is_number : FnD P w K mg base T 1 "is_number" (top 5) ["thing"] F_is_number) (i : ∀ ds Q Z, F_is_between ds Q Z → fnW 3 3 m_is_between ds Q Z) : FnD P w K mg base T 2 "is_between" (top 6) ["thing", "low", "high"] F_is_between :=
  fnD_mk V.d_is_between sc_is_between (fun _ _ _ _ _ _ us hl => match us, hl with | [_, _, _], _ => rfl) (fun f cdv A outer s H E g B c => by
  unfold m_is_between
  refine dss_one ?_
  refine ds_rt ?_
  refine de_and ?_ ?_
  refine de_call f_is_number c (by decide) (by rfl) ?_
  refine da_cons ?_ ?_
  exact de_var (i := 0)
  exact da_nil
  refine de_one ?_
  refine de_ch op_le op_le dle_ok dle_ok ?_ ?_ ?_
  exact de_var (i := 1)
  exact de_var (i := 0)
  exact de_var (i := 2)) i
theorem sc_need_between : FnScope ["number", "low", "high", "part"] ["number", "low", "high", "part"] (defScope (top 7)) := ⟨rfl, rfl, rfl, by decide +kernel, rfl, by decide +kernel, by decide +kernel⟩
def m_need_between : SM := (sIf (tNt (tTru (eF 3 F_is_between (aCons (eVar 0) (aCons (eVar 1) (aCons (eVar 2) aNil)))))) (sRz "BadNumber" "part" (eVar 3)) sNx)
theorem k_need_between (V : Vx P w K mg base T) (f_is_between : FnD P w K mg base T 2 "is_between" (top 6) ["thing", "low", "high"] F_is_between) (i : ∀ ds Q Z, F_need_between ds Q Z → fnW 4 4 m_need_between ds Q Z) : FnD P w K mg base T 3 "need_between" (top 7) ["number", "low", "high", "part"] F_need_between :=
  fnD_mk V.d_need_between sc_need_between (fun _ _ _ _ _ _ us hl => match us, hl with | [_, _, _, _], _ => rfl) (fun f cdv A outer s H E g B c => by
  unfold m_need_between
  refine dss_one ?_
  refine ds_if ?_ ?_ ?_
  refine dt_not ?_
  refine dt_tru ?_
  refine de_call f_is_between c (by decide) (by rfl) ?_
  refine da_cons ?_ ?_
  exact de_var (i := 0)
  refine da_cons ?_ ?_
  exact de_var (i := 1)
  refine da_cons ?_ ?_
  exact de_var (i := 2)
  exact da_nil
  refine dss_one ?_
  obtain ⟨_, h1, _, h2⟩ := V.c_BadNumber
  refine ds_rz c h2 h1 (by rfl) ?_
  exact de_var (i := 3)
  exact dss_nil) i
theorem sc_choices_many : FnScope ["points", "size"] ["points", "size"] (defScope (top 11)) := ⟨rfl, rfl, rfl, by decide +kernel, rfl, by decide +kernel, by decide +kernel⟩
def m_choices_many : SM := (sRt (eIf (tBo (eCh dGe dGe (eVar 0) (eVar 1) (eC (.int 0)))) (eA bCmb (aCons (eVar 0) (aCons (eVar 1) aNil))) (eC (.int 0))))
theorem k_choices_many (V : Vx P w K mg base T)  (i : ∀ ds Q Z, F_choices_many ds Q Z → fnW 2 2 m_choices_many ds Q Z) : FnD P w K mg base T 1 "choices_many" (top 11) ["points", "size"] F_choices_many :=
  fnD_mk V.d_choices_many sc_choices_many (fun _ _ _ _ _ _ us hl => match us, hl with | [_, _], _ => rfl) (fun f cdv A outer s H E g B c => by
  unfold m_choices_many
  refine dss_one ?_
  refine ds_rt ?_
  refine de_if ?_ ?_ ?_
  refine dt_ch op_ge op_ge dge_ok dge_ok ?_ ?_ ?_
  exact de_var (i := 0)
  exact de_var (i := 1)
  exact de_int
  refine de_bf call_cmb bcmb_ok (by rfl) V.m_comb ?_
  refine da_cons ?_ ?_
  exact de_var (i := 0)
  refine da_cons ?_ ?_
  exact de_var (i := 1)
  exact da_nil
  exact de_int) i
theorem sc_greatest_points : FnScope ["number", "size", "low", "high", "middle"] ["number", "size"] (defScope (top 12)) := ⟨rfl, rfl, rfl, by decide +kernel, rfl, by decide +kernel, by decide +kernel⟩
def m_greatest_points : SM := (sSq (sPr [2, 3] (aCons (eVar 1) (aCons (e2 dAdd (eVar 1) (eC (.int 1))) aNil)))
  (sSq (sWh [] (tBo (e2 dLe (eF 2 F_choices_many (aCons (eVar 3) (aCons (eVar 1) aNil))) (eVar 0))) (sPr [2, 3] (aCons (eVar 3) (aCons (e2 dTim (eC (.int 2)) (eVar 3)) aNil))))
  (sSq (sWh [4] (tBo (e2 dGt (e2 dSub (eVar 3) (eVar 2)) (eC (.int 1)))) (sSq (sSet 4 (e2 dDiv (e2 dAdd (eVar 2) (eVar 3)) (eC (.int 2))))
  (sIf (tBo (e2 dLe (eF 2 F_choices_many (aCons (eVar 4) (aCons (eVar 1) aNil))) (eVar 0))) (sSet 2 (eVar 4)) (sSet 3 (eVar 4)))))
  (sRt (eVar 2)))))
theorem k_greatest_points (V : Vx P w K mg base T) (f_choices_many : FnD P w K mg base T 1 "choices_many" (top 11) ["points", "size"] F_choices_many) (i : ∀ ds Q Z, F_greatest_points ds Q Z → fnW 5 2 m_greatest_points ds Q Z) : FnD P w K mg base T 2 "greatest_points" (top 12) ["number", "size"] F_greatest_points :=
  fnD_mk V.d_greatest_points sc_greatest_points (fun _ _ _ _ _ _ us hl => match us, hl with | [_, _], _ => rfl) (fun f cdv A outer s H E g B c => by
  unfold m_greatest_points
  refine dss_cons ?_ ?_
  refine ds_p2 (i := 2) (j := 3) c.calm sc_greatest_points.nd ?_
  refine da_cons ?_ ?_
  exact de_var (i := 1)
  refine da_cons ?_ ?_
  refine de_add ?_ ?_
  exact de_var (i := 1)
  exact de_int
  exact da_nil
  refine dss_cons ?_ ?_
  refine ds_wh (kl := []) (passes_of rfl) ?_ ?_
  refine dt_le ?_ ?_
  refine de_call f_choices_many c (by decide) (by rfl) ?_
  refine da_cons ?_ ?_
  exact de_var (i := 3)
  refine da_cons ?_ ?_
  exact de_var (i := 1)
  exact da_nil
  exact de_var (i := 0)
  refine dss_one ?_
  refine ds_p2 (i := 2) (j := 3) c.calm sc_greatest_points.nd ?_
  refine da_cons ?_ ?_
  exact de_var (i := 3)
  refine da_cons ?_ ?_
  refine de_tim ?_ ?_
  exact de_int
  exact de_var (i := 3)
  exact da_nil
  refine dss_cons ?_ ?_
  refine ds_wh (kl := [4]) (passes_of rfl) ?_ ?_
  refine dt_gt ?_ ?_
  refine de_sub ?_ ?_
  exact de_var (i := 3)
  exact de_var (i := 2)
  exact de_int
  refine dss_cons ?_ ?_
  refine ds_set (i := 4) sc_greatest_points.nd ?_
  refine de_div ?_ ?_
  refine de_add ?_ ?_
  exact de_var (i := 2)
  exact de_var (i := 3)
  exact de_int
  refine dss_one ?_
  refine ds_if ?_ ?_ ?_
  refine dt_le ?_ ?_
  refine de_call f_choices_many c (by decide) (by rfl) ?_
  refine da_cons ?_ ?_
  exact de_var (i := 4)
  refine da_cons ?_ ?_
  exact de_var (i := 1)
  exact da_nil
  exact de_var (i := 0)
  refine dss_one ?_
  refine ds_set (i := 2) sc_greatest_points.nd ?_
  exact de_var (i := 4)
  refine dss_one ?_
  refine ds_set (i := 3) sc_greatest_points.nd ?_
  exact de_var (i := 4)
  refine dss_one ?_
  refine ds_rt ?_
  exact de_var (i := 2)) i
theorem sc_cascade_told : FnScope ["number", "size", "found", "left", "here", "points"] ["number", "size"] (defScope (top 13)) := ⟨rfl, rfl, rfl, by decide +kernel, rfl, by decide +kernel, by decide +kernel⟩
def m_cascade_told : SM := (sSq (sPo 2 [3, 4] (aCons (eVar 0) (aCons (eVar 1) aNil)))
  (sSq (sWh [5] (tBo (e2 dGt (eVar 3) (eC (.int 0)))) (sSq (sSet 5 (eF 2 F_greatest_points (aCons (eVar 3) (aCons (eVar 4) aNil))))
  (sSq (sApp 2 (eTup (aCons (eVar 5) (aCons (eVar 4) aNil))))
  (sPr [3, 4] (aCons (e2 dSub (eVar 3) (eF 2 F_choices_many (aCons (eVar 5) (aCons (eVar 4) aNil)))) (aCons (e2 dSub (eVar 4) (eC (.int 1))) aNil))))))
  (sFz 2 (sRt (eVar 2)))))
theorem k_cascade_told (V : Vx P w K mg base T) (f_choices_many : FnD P w K mg base T 1 "choices_many" (top 11) ["points", "size"] F_choices_many) (f_greatest_points : FnD P w K mg base T 2 "greatest_points" (top 12) ["number", "size"] F_greatest_points) (i : ∀ ds Q Z, F_cascade_told ds Q Z → fnW 6 2 m_cascade_told ds Q Z) : FnD P w K mg base T 3 "cascade_told" (top 13) ["number", "size"] F_cascade_told :=
  fnD_mk V.d_cascade_told sc_cascade_told (fun _ _ _ _ _ _ us hl => match us, hl with | [_, _], _ => rfl) (fun f cdv A outer s H E g B c => by
  unfold m_cascade_told
  refine dss_cons ?_ ?_
  refine ds_p3o (i := 2) (j := 3) (l := 4) c.calm sc_cascade_told.nd (fun B2 => ?_)
  refine da_cons ?_ ?_
  exact de_var (i := 0)
  refine da_cons ?_ ?_
  exact de_var (i := 1)
  exact da_nil
  refine dss_cons ?_ ?_
  refine ds_wh (kl := [5]) (passes_of rfl) ?_ ?_
  refine dt_gt ?_ ?_
  exact de_var (i := 3)
  exact de_int
  refine dss_cons ?_ ?_
  refine ds_set (i := 5) sc_cascade_told.nd ?_
  refine de_call f_greatest_points c (by decide) (by rfl) ?_
  refine da_cons ?_ ?_
  exact de_var (i := 3)
  refine da_cons ?_ ?_
  exact de_var (i := 4)
  exact da_nil
  refine dss_cons ?_ ?_
  refine ds_app (i := 2) ?_ (hp := fun h1 h2 => pe_bm PySem.F.plainAttrs_list PySem.F.slot_list_append PySem.F.type_list_append mt_append h1 h2)
  refine de_tup ?_
  refine da_cons ?_ ?_
  exact de_var (i := 5)
  refine da_cons ?_ ?_
  exact de_var (i := 4)
  exact da_nil
  refine dss_one ?_
  refine ds_p2 (i := 3) (j := 4) c.calm sc_cascade_told.nd ?_
  refine da_cons ?_ ?_
  refine de_sub ?_ ?_
  exact de_var (i := 3)
  refine de_call f_choices_many c (by decide) (by rfl) ?_
  refine da_cons ?_ ?_
  exact de_var (i := 5)
  refine da_cons ?_ ?_
  exact de_var (i := 4)
  exact da_nil
  refine da_cons ?_ ?_
  refine de_sub ?_ ?_
  exact de_var (i := 4)
  exact de_int
  exact da_nil
  refine dss_fz (i := 2) ?_
  refine dss_one ?_
  refine ds_rt ?_
  exact de_var (i := 2)) i
theorem sc_shadow_told : FnScope ["number", "size", "points", "here"] ["number", "size"] (defScope (top 14)) := ⟨rfl, rfl, rfl, by decide +kernel, rfl, by decide +kernel, by decide +kernel⟩
def m_shadow_told : SM := (sRt (eA bSum (aCons (eLc [2, 3] (tg2 2 3) (iOf (eF 2 F_cascade_told (aCons (eVar 0) (aCons (eVar 1) aNil)))) tTrue (eF 2 F_choices_many (aCons (eVar 2) (aCons (e2 dSub (eVar 3) (eC (.int 1))) aNil)))) aNil)))
theorem k_shadow_told (V : Vx P w K mg base T) (f_choices_many : FnD P w K mg base T 1 "choices_many" (top 11) ["points", "size"] F_choices_many) (f_cascade_told : FnD P w K mg base T 3 "cascade_told" (top 13) ["number", "size"] F_cascade_told) (i : ∀ ds Q Z, F_shadow_told ds Q Z → fnW 4 2 m_shadow_told ds Q Z) : FnD P w K mg base T 4 "shadow_told" (top 14) ["number", "size"] F_shadow_told :=
  fnD_mk V.d_shadow_told sc_shadow_told (fun _ _ _ _ _ _ us hl => match us, hl with | [_, _], _ => rfl) (fun f cdv A outer s H E g B c => by
  unfold m_shadow_told
  refine dss_one ?_
  refine ds_rt ?_
  refine db_sum c V.b_sum (by rfl) ?_
  refine da_cons ?_ ?_
  refine de_lc c.calm sc_shadow_told.nd ?_ (blkOk_by (N := ["number", "size", "points", "here"]) (sc := defScope (top 14)) (own := [("points", 2), ("here", 3)]) (by decide +kernel)) (fun _ _ _ _ _ => (pg_tup (by exact c.calm) (pgs_cons (pg_name (i := 2) sc_shadow_told.nd rfl (.inl rfl)) (pgs_cons (pg_name (i := 3) sc_shadow_told.nd rfl (.inl rfl)) pgs_nil)))) (tg2_ok 2 3) (by decide) (fun _ _ _ _ _ _ => ?_) (fun _ _ _ _ _ _ => ?_)
  refine di_of ?_
  refine de_call f_cascade_told c (by decide) (by rfl) ?_
  refine da_cons ?_ ?_
  exact de_var (i := 0)
  refine da_cons ?_ ?_
  exact de_var (i := 1)
  exact da_nil
  exact dts_nil
  refine de_call f_choices_many (c.blk _ _ _ _ _) (by decide) (by rfl) ?_
  refine da_cons ?_ ?_
  exact de_var (i := 2)
  refine da_cons ?_ ?_
  refine de_sub ?_ ?_
  exact de_var (i := 3)
  exact de_int
  exact da_nil
  exact da_nil) i
theorem sc_raised_told : FnScope ["number", "size", "points", "here"] ["number", "size"] (defScope (top 15)) := ⟨rfl, rfl, rfl, by decide +kernel, rfl, by decide +kernel, by decide +kernel⟩
def m_raised_told : SM := (sRt (eA bSum (aCons (eLc [2, 3] (tg2 2 3) (iOf (eF 2 F_cascade_told (aCons (eVar 0) (aCons (eVar 1) aNil)))) tTrue (eF 2 F_choices_many (aCons (eVar 2) (aCons (e2 dAdd (eVar 3) (eC (.int 1))) aNil)))) aNil)))
theorem k_raised_told (V : Vx P w K mg base T) (f_choices_many : FnD P w K mg base T 1 "choices_many" (top 11) ["points", "size"] F_choices_many) (f_cascade_told : FnD P w K mg base T 3 "cascade_told" (top 13) ["number", "size"] F_cascade_told) (i : ∀ ds Q Z, F_raised_told ds Q Z → fnW 4 2 m_raised_told ds Q Z) : FnD P w K mg base T 4 "raised_told" (top 15) ["number", "size"] F_raised_told :=
  fnD_mk V.d_raised_told sc_raised_told (fun _ _ _ _ _ _ us hl => match us, hl with | [_, _], _ => rfl) (fun f cdv A outer s H E g B c => by
  unfold m_raised_told
  refine dss_one ?_
  refine ds_rt ?_
  refine db_sum c V.b_sum (by rfl) ?_
  refine da_cons ?_ ?_
  refine de_lc c.calm sc_raised_told.nd ?_ (blkOk_by (N := ["number", "size", "points", "here"]) (sc := defScope (top 15)) (own := [("points", 2), ("here", 3)]) (by decide +kernel)) (fun _ _ _ _ _ => (pg_tup (by exact c.calm) (pgs_cons (pg_name (i := 2) sc_raised_told.nd rfl (.inl rfl)) (pgs_cons (pg_name (i := 3) sc_raised_told.nd rfl (.inl rfl)) pgs_nil)))) (tg2_ok 2 3) (by decide) (fun _ _ _ _ _ _ => ?_) (fun _ _ _ _ _ _ => ?_)
  refine di_of ?_
  refine de_call f_cascade_told c (by decide) (by rfl) ?_
  refine da_cons ?_ ?_
  exact de_var (i := 0)
  refine da_cons ?_ ?_
  exact de_var (i := 1)
  exact da_nil
  exact dts_nil
  refine de_call f_choices_many (c.blk _ _ _ _ _) (by decide) (by rfl) ?_
  refine da_cons ?_ ?_
  exact de_var (i := 2)
  refine da_cons ?_ ?_
  refine de_add ?_ ?_
  exact de_var (i := 3)
  exact de_int
  exact da_nil
  exact da_nil) i
theorem sc_grown_told : FnScope ["number", "size", "points", "here"] ["number", "size"] (defScope (top 16)) := ⟨rfl, rfl, rfl, by decide +kernel, rfl, by decide +kernel, by decide +kernel⟩
def m_grown_told : SM := (sRt (eA bSum (aCons (eLc [2, 3] (tg2 2 3) (iOf (eF 2 F_cascade_told (aCons (eVar 0) (aCons (eVar 1) aNil)))) tTrue (eF 2 F_choices_many (aCons (e2 dAdd (eVar 2) (eC (.int 1))) (aCons (e2 dAdd (eVar 3) (eC (.int 1))) aNil)))) aNil)))
theorem k_grown_told (V : Vx P w K mg base T) (f_choices_many : FnD P w K mg base T 1 "choices_many" (top 11) ["points", "size"] F_choices_many) (f_cascade_told : FnD P w K mg base T 3 "cascade_told" (top 13) ["number", "size"] F_cascade_told) (i : ∀ ds Q Z, F_grown_told ds Q Z → fnW 4 2 m_grown_told ds Q Z) : FnD P w K mg base T 4 "grown_told" (top 16) ["number", "size"] F_grown_told :=
  fnD_mk V.d_grown_told sc_grown_told (fun _ _ _ _ _ _ us hl => match us, hl with | [_, _], _ => rfl) (fun f cdv A outer s H E g B c => by
  unfold m_grown_told
  refine dss_one ?_
  refine ds_rt ?_
  refine db_sum c V.b_sum (by rfl) ?_
  refine da_cons ?_ ?_
  refine de_lc c.calm sc_grown_told.nd ?_ (blkOk_by (N := ["number", "size", "points", "here"]) (sc := defScope (top 16)) (own := [("points", 2), ("here", 3)]) (by decide +kernel)) (fun _ _ _ _ _ => (pg_tup (by exact c.calm) (pgs_cons (pg_name (i := 2) sc_grown_told.nd rfl (.inl rfl)) (pgs_cons (pg_name (i := 3) sc_grown_told.nd rfl (.inl rfl)) pgs_nil)))) (tg2_ok 2 3) (by decide) (fun _ _ _ _ _ _ => ?_) (fun _ _ _ _ _ _ => ?_)
  refine di_of ?_
  refine de_call f_cascade_told c (by decide) (by rfl) ?_
  refine da_cons ?_ ?_
  exact de_var (i := 0)
  refine da_cons ?_ ?_
  exact de_var (i := 1)
  exact da_nil
  exact dts_nil
  refine de_call f_choices_many (c.blk _ _ _ _ _) (by decide) (by rfl) ?_
  refine da_cons ?_ ?_
  refine de_add ?_ ?_
  exact de_var (i := 2)
  exact de_int
  refine da_cons ?_ ?_
  refine de_add ?_ ?_
  exact de_var (i := 3)
  exact de_int
  exact da_nil
  exact da_nil) i
theorem sc_need_both : FnScope ["number", "size"] ["number", "size"] (defScope (top 17)) := ⟨rfl, rfl, rfl, by decide +kernel, rfl, by decide +kernel, by decide +kernel⟩
def m_need_both : SM := (sSq (sDr (eF 4 F_need_between (aCons (eVar 0) (aCons (eC (.int 0)) (aCons (eC (.int v_MOST_NUMBER)) (aCons (eC (.str "number")) aNil))))))
  (sDr (eF 4 F_need_between (aCons (eVar 1) (aCons (eC (.int 1)) (aCons (eC (.int v_MOST_SIZE)) (aCons (eC (.str "size")) aNil)))))))
theorem k_need_both (V : Vx P w K mg base T) (f_need_between : FnD P w K mg base T 3 "need_between" (top 7) ["number", "low", "high", "part"] F_need_between) (i : ∀ ds Q Z, F_need_both ds Q Z → fnW 2 2 m_need_both ds Q Z) : FnD P w K mg base T 4 "need_both" (top 17) ["number", "size"] F_need_both :=
  fnD_mk V.d_need_both sc_need_both (fun _ _ _ _ _ _ us hl => match us, hl with | [_, _], _ => rfl) (fun f cdv A outer s H E g B c => by
  unfold m_need_both
  refine dss_cons ?_ ?_
  refine ds_dr ?_
  refine de_call f_need_between c (by decide) (by rfl) ?_
  refine da_cons ?_ ?_
  exact de_var (i := 0)
  refine da_cons ?_ ?_
  exact de_int
  refine da_cons ?_ ?_
  exact de_gx V.g_MOST_NUMBER (by rfl)
  refine da_cons ?_ ?_
  exact de_str
  exact da_nil
  refine dss_one ?_
  refine ds_dr ?_
  refine de_call f_need_between c (by decide) (by rfl) ?_
  refine da_cons ?_ ?_
  exact de_var (i := 1)
  refine da_cons ?_ ?_
  exact de_int
  refine da_cons ?_ ?_
  exact de_gx V.g_MOST_SIZE (by rfl)
  refine da_cons ?_ ?_
  exact de_str
  exact da_nil) i
theorem sc_cascade : FnScope ["number", "size"] ["number", "size"] (defScope (top 18)) := ⟨rfl, rfl, rfl, by decide +kernel, rfl, by decide +kernel, by decide +kernel⟩
def m_cascade : SM := (sSq (sDr (eF 2 F_need_both (aCons (eVar 0) (aCons (eVar 1) aNil))))
  (sRt (eA bTup (aCons (eF 2 F_cascade_told (aCons (eVar 0) (aCons (eVar 1) aNil))) aNil))))
theorem k_cascade (V : Vx P w K mg base T) (f_cascade_told : FnD P w K mg base T 3 "cascade_told" (top 13) ["number", "size"] F_cascade_told) (f_need_both : FnD P w K mg base T 4 "need_both" (top 17) ["number", "size"] F_need_both) (i : ∀ ds Q Z, F_cascade ds Q Z → fnW 2 2 m_cascade ds Q Z) : FnD P w K mg base T 5 "cascade" (top 18) ["number", "size"] F_cascade :=
  fnD_mk V.d_cascade sc_cascade (fun _ _ _ _ _ _ us hl => match us, hl with | [_, _], _ => rfl) (fun f cdv A outer s H E g B c => by
  unfold m_cascade
  refine dss_cons ?_ ?_
  refine ds_dr ?_
  refine de_call f_need_both c (by decide) (by rfl) ?_
  refine da_cons ?_ ?_
  exact de_var (i := 0)
  refine da_cons ?_ ?_
  exact de_var (i := 1)
  exact da_nil
  refine dss_one ?_
  refine ds_rt ?_
  refine db_tuple V.b_tuple (by rfl) ?_
  refine da_cons ?_ ?_
  refine de_call f_cascade_told c (by decide) (by rfl) ?_
  refine da_cons ?_ ?_
  exact de_var (i := 0)
  refine da_cons ?_ ?_
  exact de_var (i := 1)
  exact da_nil
  exact da_nil) i
theorem sc_shadow_many : FnScope ["number", "size"] ["number", "size"] (defScope (top 19)) := ⟨rfl, rfl, rfl, by decide +kernel, rfl, by decide +kernel, by decide +kernel⟩
def m_shadow_many : SM := (sSq (sDr (eF 2 F_need_both (aCons (eVar 0) (aCons (eVar 1) aNil))))
  (sRt (eF 2 F_shadow_told (aCons (eVar 0) (aCons (eVar 1) aNil)))))
theorem k_shadow_many (V : Vx P w K mg base T) (f_shadow_told : FnD P w K mg base T 4 "shadow_told" (top 14) ["number", "size"] F_shadow_told) (f_need_both : FnD P w K mg base T 4 "need_both" (top 17) ["number", "size"] F_need_both) (i : ∀ ds Q Z, F_shadow_many ds Q Z → fnW 2 2 m_shadow_many ds Q Z) : FnD P w K mg base T 5 "shadow_many" (top 19) ["number", "size"] F_shadow_many :=
  fnD_mk V.d_shadow_many sc_shadow_many (fun _ _ _ _ _ _ us hl => match us, hl with | [_, _], _ => rfl) (fun f cdv A outer s H E g B c => by
  unfold m_shadow_many
  refine dss_cons ?_ ?_
  refine ds_dr ?_
  refine de_call f_need_both c (by decide) (by rfl) ?_
  refine da_cons ?_ ?_
  exact de_var (i := 0)
  refine da_cons ?_ ?_
  exact de_var (i := 1)
  exact da_nil
  refine dss_one ?_
  refine ds_rt ?_
  refine de_call f_shadow_told c (by decide) (by rfl) ?_
  refine da_cons ?_ ?_
  exact de_var (i := 0)
  refine da_cons ?_ ?_
  exact de_var (i := 1)
  exact da_nil) i
theorem sc_raised_many : FnScope ["number", "size"] ["number", "size"] (defScope (top 20)) := ⟨rfl, rfl, rfl, by decide +kernel, rfl, by decide +kernel, by decide +kernel⟩
def m_raised_many : SM := (sSq (sDr (eF 2 F_need_both (aCons (eVar 0) (aCons (eVar 1) aNil))))
  (sRt (eF 2 F_raised_told (aCons (eVar 0) (aCons (eVar 1) aNil)))))
theorem k_raised_many (V : Vx P w K mg base T) (f_raised_told : FnD P w K mg base T 4 "raised_told" (top 15) ["number", "size"] F_raised_told) (f_need_both : FnD P w K mg base T 4 "need_both" (top 17) ["number", "size"] F_need_both) (i : ∀ ds Q Z, F_raised_many ds Q Z → fnW 2 2 m_raised_many ds Q Z) : FnD P w K mg base T 5 "raised_many" (top 20) ["number", "size"] F_raised_many :=
  fnD_mk V.d_raised_many sc_raised_many (fun _ _ _ _ _ _ us hl => match us, hl with | [_, _], _ => rfl) (fun f cdv A outer s H E g B c => by
  unfold m_raised_many
  refine dss_cons ?_ ?_
  refine ds_dr ?_
  refine de_call f_need_both c (by decide) (by rfl) ?_
  refine da_cons ?_ ?_
  exact de_var (i := 0)
  refine da_cons ?_ ?_
  exact de_var (i := 1)
  exact da_nil
  refine dss_one ?_
  refine ds_rt ?_
  refine de_call f_raised_told c (by decide) (by rfl) ?_
  refine da_cons ?_ ?_
  exact de_var (i := 0)
  refine da_cons ?_ ?_
  exact de_var (i := 1)
  exact da_nil) i
theorem sc_grown : FnScope ["number", "size"] ["number", "size"] (defScope (top 21)) := ⟨rfl, rfl, rfl, by decide +kernel, rfl, by decide +kernel, by decide +kernel⟩
def m_grown : SM := (sSq (sDr (eF 2 F_need_both (aCons (eVar 0) (aCons (eVar 1) aNil))))
  (sRt (eF 2 F_grown_told (aCons (eVar 0) (aCons (eVar 1) aNil)))))
theorem k_grown (V : Vx P w K mg base T) (f_grown_told : FnD P w K mg base T 4 "grown_told" (top 16) ["number", "size"] F_grown_told) (f_need_both : FnD P w K mg base T 4 "need_both" (top 17) ["number", "size"] F_need_both) (i : ∀ ds Q Z, F_grown ds Q Z → fnW 2 2 m_grown ds Q Z) : FnD P w K mg base T 5 "grown" (top 21) ["number", "size"] F_grown :=
  fnD_mk V.d_grown sc_grown (fun _ _ _ _ _ _ us hl => match us, hl with | [_, _], _ => rfl) (fun f cdv A outer s H E g B c => by
  unfold m_grown
  refine dss_cons ?_ ?_
  refine ds_dr ?_
  refine de_call f_need_both c (by decide) (by rfl) ?_
  refine da_cons ?_ ?_
  exact de_var (i := 0)
  refine da_cons ?_ ?_
  exact de_var (i := 1)
  exact da_nil
  refine dss_one ?_
  refine ds_rt ?_
  refine de_call f_grown_told c (by decide) (by rfl) ?_
  refine da_cons ?_ ?_
  exact de_var (i := 0)
  refine da_cons ?_ ?_
  exact de_var (i := 1)
  exact da_nil) i
theorem sc_law_begun : FnScope ["script", "large", "grain"] ["script"] (defScope (top 23)) := ⟨rfl, rfl, rfl, by decide +kernel, rfl, by decide +kernel, by decide +kernel⟩
theorem sc_law_mixed : FnScope ["draw", "turn", "found", "great", "blend", "grain"] ["draw"] (defScope (top 24)) := ⟨rfl, rfl, rfl, by decide +kernel, rfl, by decide +kernel, by decide +kernel⟩
def m_law_mixed : SM := (sSq (sDi 0 (e2 dAdd (eDi 0) (eC (.int 1))))
  (sSq (sPr [1, 2] (aCons (eA bInt2 (aCons (eDi 0) aNil)) (aCons (eC (.int 0)) aNil)))
  (sSq (sFor (tgN 3) [3, 4, 5] (iOf (eLst (aCons (eC (.int 2147483629)) (aCons (eC (.int 2147483587)) (aCons (eC (.int 2147483579)) aNil))))) (sSq (sSet 4 (e2 dMod (eA bInt2 (aCons (e2 dAdd (e2 dTim (eVar 1) (eC (.int 69621))) (e2 dDiv (eVar 3) (eC (.int 7)))) aNil)) (eVar 3)))
  (sSq (sFor (tgN 5) [5] (iOf (eDc 0)) (sSet 4 (e2 dMod (eA bInt2 (aCons (e2 dAdd (e2 dAdd (e2 dTim (eVar 4) (eC (.int 48271))) (eA bInt2 (aCons (eVar 5) aNil))) (eC (.int 1))) aNil)) (eVar 3))))
  (sSet 2 (e2 dAdd (e2 dTim (eVar 2) (eC (.int 2147483647))) (e2 dMod (eA bInt2 (aCons (e2 dPow (eVar 4) (eC (.int 5))) aNil)) (eVar 3)))))))
  (sRt (eVar 2)))))
theorem k_law_mixed (V : Vx P w K mg base T)  (i : ∀ ds Q Z, F_law_mixed ds Q Z → fnW 6 1 m_law_mixed ds Q Z) : FnD P w K mg base T 1 "_law_mixed" (top 24) ["draw"] F_law_mixed :=
  fnD_mk V.d__law_mixed sc_law_mixed (fun _ _ _ _ _ _ us hl => match us, hl with | [_], _ => rfl) (fun f cdv A outer s H E g B c => by
  unfold m_law_mixed
  refine dss_cons ?_ ?_
  refine ds_dint (i := 0) (.inr rfl) c ?_
  refine de_add ?_ ?_
  exact de_dint (i := 0) (.inr rfl) c
  exact de_int
  refine dss_cons ?_ ?_
  refine ds_p2 (i := 1) (j := 2) c.calm sc_law_mixed.nd ?_
  refine da_cons ?_ ?_
  refine db_int V.b_int (by rfl) ?_
  refine da_cons ?_ ?_
  exact de_dint (i := 0) (.inr rfl) c
  exact da_nil
  refine da_cons ?_ ?_
  exact de_int
  exact da_nil
  refine dss_cons ?_ ?_
  refine ds_for (kl := [3, 4, 5]) (passes_of rfl) c.calm ?_ (pg_name (i := 3) sc_law_mixed.nd rfl (.inl rfl)) (tgN_ok 3) ?_
  refine di_of ?_
  refine de_lst ?_
  refine da_cons ?_ ?_
  exact de_int
  refine da_cons ?_ ?_
  exact de_int
  refine da_cons ?_ ?_
  exact de_int
  exact da_nil
  refine dss_cons ?_ ?_
  refine ds_set (i := 4) sc_law_mixed.nd ?_
  refine de_mod ?_ ?_
  refine db_int V.b_int (by rfl) ?_
  refine da_cons ?_ ?_
  refine de_add ?_ ?_
  refine de_tim ?_ ?_
  exact de_var (i := 1)
  exact de_int
  refine de_div ?_ ?_
  exact de_var (i := 3)
  exact de_int
  exact da_nil
  exact de_var (i := 3)
  refine dss_cons ?_ ?_
  refine ds_for (kl := [5]) (passes_of rfl) c.calm ?_ (pg_name (i := 5) sc_law_mixed.nd rfl (.inl rfl)) (tgN_ok 5) ?_
  refine di_of ?_
  exact de_dcells (i := 0) c
  refine dss_one ?_
  refine ds_set (i := 4) sc_law_mixed.nd ?_
  refine de_mod ?_ ?_
  refine db_int V.b_int (by rfl) ?_
  refine da_cons ?_ ?_
  refine de_add ?_ ?_
  refine de_add ?_ ?_
  refine de_tim ?_ ?_
  exact de_var (i := 4)
  exact de_int
  refine db_int V.b_int (by rfl) ?_
  refine da_cons ?_ ?_
  exact de_var (i := 5)
  exact da_nil
  exact de_int
  exact da_nil
  exact de_var (i := 3)
  refine dss_one ?_
  refine ds_set (i := 2) sc_law_mixed.nd ?_
  refine de_add ?_ ?_
  refine de_tim ?_ ?_
  exact de_var (i := 2)
  exact de_int
  refine de_mod ?_ ?_
  refine db_int V.b_int (by rfl) ?_
  refine da_cons ?_ ?_
  refine de_pow ?_ ?_
  exact de_var (i := 4)
  exact de_int
  exact da_nil
  exact de_var (i := 3)
  refine dss_one ?_
  refine ds_rt ?_
  exact de_var (i := 2)) i
theorem sc_law_take : FnScope ["draw", "amount", "found"] ["draw", "amount"] (defScope (top 25)) := ⟨rfl, rfl, rfl, by decide +kernel, rfl, by decide +kernel, by decide +kernel⟩
def m_law_take : SM := (sSq (sIf (tBo (e2 dEq (eDi 0) (eC (.int 0)))) (sDi 0 (eDi 0)) sNx)
  (sSq (sSet 2 (e2 dMod (eA bInt2 (aCons (eDi 0) aNil)) (eVar 1)))
  (sSq (sDi 0 (e2 dDiv (eA bInt2 (aCons (eDi 0) aNil)) (eVar 1)))
  (sRt (eVar 2)))))
theorem k_law_take (V : Vx P w K mg base T) (f_law_mixed : FnD P w K mg base T 1 "_law_mixed" (top 24) ["draw"] F_law_mixed) (i : ∀ ds Q Z, F_law_take ds Q Z → fnW 3 2 m_law_take ds Q Z) : FnD P w K mg base T 2 "_law_take" (top 25) ["draw", "amount"] F_law_take :=
  fnD_mk V.d__law_take sc_law_take (fun _ _ _ _ _ _ us hl => match us, hl with | [_, _], _ => rfl) (fun f cdv A outer s H E g B c => by
  unfold m_law_take
  refine dss_cons ?_ ?_
  refine ds_if ?_ ?_ ?_
  refine dt_eq c ?_ ?_
  exact de_dint (i := 0) (.inl rfl) c
  exact de_int
  refine dss_one ?_
  refine ds_dint (i := 0) (.inl rfl) c ?_
  exact (de_dnext (i := 0) c (by decide) f_law_mixed (by rfl) (by rfl))
  exact dss_nil
  refine dss_cons ?_ ?_
  refine ds_set (i := 2) sc_law_take.nd ?_
  refine de_mod ?_ ?_
  refine db_int V.b_int (by rfl) ?_
  refine da_cons ?_ ?_
  exact de_dint (i := 0) (.inl rfl) c
  exact da_nil
  exact de_var (i := 1)
  refine dss_cons ?_ ?_
  refine ds_dint (i := 0) (.inl rfl) c ?_
  refine de_div ?_ ?_
  refine db_int V.b_int (by rfl) ?_
  refine da_cons ?_ ?_
  exact de_dint (i := 0) (.inl rfl) c
  exact da_nil
  exact de_var (i := 1)
  refine dss_one ?_
  refine ds_rt ?_
  exact de_var (i := 2)) i
theorem sc_law_pick : FnScope ["draw", "some"] ["draw", "some"] (defScope (top 26)) := ⟨rfl, rfl, rfl, by decide +kernel, rfl, by decide +kernel, by decide +kernel⟩
def m_law_pick : SM := (sRt (e2 dIx (eVar 1) (eF 2 F_law_take (aCons (eVar 0) (aCons (eA bLen (aCons (eVar 1) aNil)) aNil)))))
theorem k_law_pick (V : Vx P w K mg base T) (f_law_take : FnD P w K mg base T 2 "_law_take" (top 25) ["draw", "amount"] F_law_take) (i : ∀ ds Q Z, F_law_pick ds Q Z → fnW 2 2 m_law_pick ds Q Z) : FnD P w K mg base T 3 "_law_pick" (top 26) ["draw", "some"] F_law_pick :=
  fnD_mk V.d__law_pick sc_law_pick (fun _ _ _ _ _ _ us hl => match us, hl with | [_, _], _ => rfl) (fun f cdv A outer s H E g B c => by
  unfold m_law_pick
  refine dss_one ?_
  refine ds_rt ?_
  refine de_ix ?_ ?_
  exact de_var (i := 1)
  refine de_call f_law_take c (by decide) (by rfl) ?_
  refine da_cons ?_ ?_
  exact de_var (i := 0)
  refine da_cons ?_ ?_
  refine db_len V.b_len (by rfl) ?_
  refine da_cons ?_ ?_
  exact de_var (i := 1)
  exact da_nil
  exact da_nil) i
theorem sc_law_caught : FnScope ["work", "caught", "error"] ["work"] (defScope (top 27)) := ⟨rfl, rfl, rfl, by decide +kernel, rfl, by decide +kernel, by decide +kernel⟩
theorem sc_law_says : FnScope ["told_here", "due"] ["told_here", "due"] (defScope (top 28)) := ⟨rfl, rfl, rfl, by decide +kernel, rfl, by decide +kernel, by decide +kernel⟩
def m_law_says : SM := (sRt (e2 dEq (eA bRpr (aCons (eVar 0) aNil)) (eA bRpr (aCons (eVar 1) aNil))))
theorem k_law_says (V : Vx P w K mg base T)  (i : ∀ ds Q Z, F_law_says ds Q Z → fnW 2 2 m_law_says ds Q Z) : FnD P w K mg base T 1 "_law_says" (top 28) ["told_here", "due"] F_law_says :=
  fnD_mk V.d__law_says sc_law_says (fun _ _ _ _ _ _ us hl => match us, hl with | [_, _], _ => rfl) (fun f cdv A outer s H E g B c => by
  unfold m_law_says
  refine dss_one ?_
  refine ds_rt ?_
  refine dc_eq c ?_ ?_
  refine db_repr c V.b_repr (by rfl) ?_
  refine da_cons ?_ ?_
  exact de_var (i := 0)
  exact da_nil
  refine db_repr c V.b_repr (by rfl) ?_
  refine da_cons ?_ ?_
  exact de_var (i := 1)
  exact da_nil) i
theorem sc_law_ten : FnScope ["many"] ["many"] (defScope (top 29)) := ⟨rfl, rfl, rfl, by decide +kernel, rfl, by decide +kernel, by decide +kernel⟩
def m_law_ten : SM := (sRt (eA bInt2 (aCons (e2 dAdd (eC (.str "1")) (e2 dTim (eC (.str "0")) (eVar 0))) aNil)))
theorem k_law_ten (V : Vx P w K mg base T)  (i : ∀ ds Q Z, F_law_ten ds Q Z → fnW 1 1 m_law_ten ds Q Z) : FnD P w K mg base T 1 "_law_ten" (top 29) ["many"] F_law_ten :=
  fnD_mk V.d__law_ten sc_law_ten (fun _ _ _ _ _ _ us hl => match us, hl with | [_], _ => rfl) (fun f cdv A outer s H E g B c => by
  unfold m_law_ten
  refine dss_one ?_
  refine ds_rt ?_
  refine db_int V.b_int (by rfl) ?_
  refine da_cons ?_ ?_
  refine de_add ?_ ?_
  exact de_str
  refine de_tim ?_ ?_
  exact de_str
  exact de_var (i := 0)
  exact da_nil) i
theorem sc_law_choose : FnScope ["points", "size", "found", "step"] ["points", "size"] (defScope (top 30)) := ⟨rfl, rfl, rfl, by decide +kernel, rfl, by decide +kernel, by decide +kernel⟩
def m_law_choose : SM := (sSq (sIf (tOo (tBo (e2 dLt (eVar 1) (eC (.int 0)))) (tBo (e2 dGt (eVar 1) (eVar 0)))) (sRt (eC (.int 0))) sNx)
  (sSq (sSet 2 (eC (.int 1)))
  (sSq (sFor (tgN 3) [3] (iRg1 (eVar 1)) (sSet 2 (e2 dDiv (e2 dTim (eVar 2) (e2 dSub (eVar 0) (eVar 3))) (e2 dAdd (eVar 3) (eC (.int 1))))))
  (sRt (eVar 2)))))
theorem k_law_choose (V : Vx P w K mg base T)  (i : ∀ ds Q Z, F_law_choose ds Q Z → fnW 4 2 m_law_choose ds Q Z) : FnD P w K mg base T 1 "_law_choose" (top 30) ["points", "size"] F_law_choose :=
  fnD_mk V.d__law_choose sc_law_choose (fun _ _ _ _ _ _ us hl => match us, hl with | [_, _], _ => rfl) (fun f cdv A outer s H E g B c => by
  unfold m_law_choose
  refine dss_cons ?_ ?_
  refine ds_if ?_ ?_ ?_
  refine dw_t ?_
  refine dw_or ?_ ?_
  refine dt_lt ?_ ?_
  exact de_var (i := 1)
  exact de_int
  refine dw_or1 ?_
  refine dt_gt ?_ ?_
  exact de_var (i := 1)
  exact de_var (i := 0)
  refine dss_one ?_
  refine ds_rt ?_
  exact de_int
  exact dss_nil
  refine dss_cons ?_ ?_
  refine ds_set (i := 2) sc_law_choose.nd ?_
  exact de_int
  refine dss_cons ?_ ?_
  refine ds_for (kl := [3]) (passes_of rfl) c.calm ?_ (pg_name (i := 3) sc_law_choose.nd rfl (.inl rfl)) (tgN_ok 3) ?_
  refine di_rg1 (by rfl) V.b_range ?_
  exact de_var (i := 1)
  refine dss_one ?_
  refine ds_set (i := 2) sc_law_choose.nd ?_
  refine de_div ?_ ?_
  refine de_tim ?_ ?_
  exact de_var (i := 2)
  refine de_sub ?_ ?_
  exact de_var (i := 0)
  exact de_var (i := 3)
  refine de_add ?_ ?_
  exact de_var (i := 3)
  exact de_int
  refine dss_one ?_
  refine ds_rt ?_
  exact de_var (i := 2)) i
theorem sc_law_cascade : FnScope ["number", "size", "found", "left", "here", "low", "high", "middle"] ["number", "size"] (defScope (top 31)) := ⟨rfl, rfl, rfl, by decide +kernel, rfl, by decide +kernel, by decide +kernel⟩
def m_law_cascade : SM := (sSq (sPo 2 [3, 4] (aCons (eVar 0) (aCons (eVar 1) aNil)))
  (sSq (sWh [5, 6, 7] (tBo (e2 dGt (eVar 3) (eC (.int 0)))) (sSq (sPr [5, 6] (aCons (eVar 4) (aCons (e2 dAdd (eVar 4) (eC (.int 1))) aNil)))
  (sSq (sWh [] (tBo (e2 dLe (eF 2 F_law_choose (aCons (eVar 6) (aCons (eVar 4) aNil))) (eVar 3))) (sPr [5, 6] (aCons (eVar 6) (aCons (e2 dTim (eC (.int 2)) (eVar 6)) aNil))))
  (sSq (sWh [7] (tBo (e2 dGt (e2 dSub (eVar 6) (eVar 5)) (eC (.int 1)))) (sSq (sSet 7 (e2 dDiv (e2 dAdd (eVar 5) (eVar 6)) (eC (.int 2))))
  (sIf (tBo (e2 dLe (eF 2 F_law_choose (aCons (eVar 7) (aCons (eVar 4) aNil))) (eVar 3))) (sSet 5 (eVar 7)) (sSet 6 (eVar 7)))))
  (sSq (sApp 2 (eTup (aCons (eVar 5) (aCons (eVar 4) aNil))))
  (sPr [3, 4] (aCons (e2 dSub (eVar 3) (eF 2 F_law_choose (aCons (eVar 5) (aCons (eVar 4) aNil)))) (aCons (e2 dSub (eVar 4) (eC (.int 1))) aNil))))))))
  (sFz 2 (sRt (eVar 2)))))
theorem k_law_cascade (V : Vx P w K mg base T) (f_law_choose : FnD P w K mg base T 1 "_law_choose" (top 30) ["points", "size"] F_law_choose) (i : ∀ ds Q Z, F_law_cascade ds Q Z → fnW 8 2 m_law_cascade ds Q Z) : FnD P w K mg base T 2 "_law_cascade" (top 31) ["number", "size"] F_law_cascade :=
  fnD_mk V.d__law_cascade sc_law_cascade (fun _ _ _ _ _ _ us hl => match us, hl with | [_, _], _ => rfl) (fun f cdv A outer s H E g B c => by
  unfold m_law_cascade
  refine dss_cons ?_ ?_
  refine ds_p3o (i := 2) (j := 3) (l := 4) c.calm sc_law_cascade.nd (fun B2 => ?_)
  refine da_cons ?_ ?_
  exact de_var (i := 0)
  refine da_cons ?_ ?_
  exact de_var (i := 1)
  exact da_nil
  refine dss_cons ?_ ?_
  refine ds_wh (kl := [5, 6, 7]) (passes_of rfl) ?_ ?_
  refine dt_gt ?_ ?_
  exact de_var (i := 3)
  exact de_int
  refine dss_cons ?_ ?_
  refine ds_p2 (i := 5) (j := 6) c.calm sc_law_cascade.nd ?_
  refine da_cons ?_ ?_
  exact de_var (i := 4)
  refine da_cons ?_ ?_
  refine de_add ?_ ?_
  exact de_var (i := 4)
  exact de_int
  exact da_nil
  refine dss_cons ?_ ?_
  refine ds_wh (kl := []) (passes_of rfl) ?_ ?_
  refine dt_le ?_ ?_
  refine de_call f_law_choose c (by decide) (by rfl) ?_
  refine da_cons ?_ ?_
  exact de_var (i := 6)
  refine da_cons ?_ ?_
  exact de_var (i := 4)
  exact da_nil
  exact de_var (i := 3)
  refine dss_one ?_
  refine ds_p2 (i := 5) (j := 6) c.calm sc_law_cascade.nd ?_
  refine da_cons ?_ ?_
  exact de_var (i := 6)
  refine da_cons ?_ ?_
  refine de_tim ?_ ?_
  exact de_int
  exact de_var (i := 6)
  exact da_nil
  refine dss_cons ?_ ?_
  refine ds_wh (kl := [7]) (passes_of rfl) ?_ ?_
  refine dt_gt ?_ ?_
  refine de_sub ?_ ?_
  exact de_var (i := 6)
  exact de_var (i := 5)
  exact de_int
  refine dss_cons ?_ ?_
  refine ds_set (i := 7) sc_law_cascade.nd ?_
  refine de_div ?_ ?_
  refine de_add ?_ ?_
  exact de_var (i := 5)
  exact de_var (i := 6)
  exact de_int
  refine dss_one ?_
  refine ds_if ?_ ?_ ?_
  refine dt_le ?_ ?_
  refine de_call f_law_choose c (by decide) (by rfl) ?_
  refine da_cons ?_ ?_
  exact de_var (i := 7)
  refine da_cons ?_ ?_
  exact de_var (i := 4)
  exact da_nil
  exact de_var (i := 3)
  refine dss_one ?_
  refine ds_set (i := 5) sc_law_cascade.nd ?_
  exact de_var (i := 7)
  refine dss_one ?_
  refine ds_set (i := 6) sc_law_cascade.nd ?_
  exact de_var (i := 7)
  refine dss_cons ?_ ?_
  refine ds_app (i := 2) ?_ (hp := fun h1 h2 => pe_bm PySem.F.plainAttrs_list PySem.F.slot_list_append PySem.F.type_list_append mt_append h1 h2)
  refine de_tup ?_
  refine da_cons ?_ ?_
  exact de_var (i := 5)
  refine da_cons ?_ ?_
  exact de_var (i := 4)
  exact da_nil
  refine dss_one ?_
  refine ds_p2 (i := 3) (j := 4) c.calm sc_law_cascade.nd ?_
  refine da_cons ?_ ?_
  refine de_sub ?_ ?_
  exact de_var (i := 3)
  refine de_call f_law_choose c (by decide) (by rfl) ?_
  refine da_cons ?_ ?_
  exact de_var (i := 5)
  refine da_cons ?_ ?_
  exact de_var (i := 4)
  exact da_nil
  refine da_cons ?_ ?_
  refine de_sub ?_ ?_
  exact de_var (i := 4)
  exact de_int
  exact da_nil
  refine dss_fz (i := 2) ?_
  refine dss_one ?_
  refine ds_rt ?_
  exact de_var (i := 2)) i
theorem sc_law_shadow : FnScope ["number", "size", "a", "i"] ["number", "size"] (defScope (top 32)) := ⟨rfl, rfl, rfl, by decide +kernel, rfl, by decide +kernel, by decide +kernel⟩
def m_law_shadow : SM := (sRt (eA bSum (aCons (eLc [2, 3] (tg2 2 3) (iOf (eF 2 F_law_cascade (aCons (eVar 0) (aCons (eVar 1) aNil)))) tTrue (eF 2 F_law_choose (aCons (eVar 2) (aCons (e2 dSub (eVar 3) (eC (.int 1))) aNil)))) aNil)))
theorem k_law_shadow (V : Vx P w K mg base T) (f_law_choose : FnD P w K mg base T 1 "_law_choose" (top 30) ["points", "size"] F_law_choose) (f_law_cascade : FnD P w K mg base T 2 "_law_cascade" (top 31) ["number", "size"] F_law_cascade) (i : ∀ ds Q Z, F_law_shadow ds Q Z → fnW 4 2 m_law_shadow ds Q Z) : FnD P w K mg base T 3 "_law_shadow" (top 32) ["number", "size"] F_law_shadow :=
  fnD_mk V.d__law_shadow sc_law_shadow (fun _ _ _ _ _ _ us hl => match us, hl with | [_, _], _ => rfl) (fun f cdv A outer s H E g B c => by
  unfold m_law_shadow
  refine dss_one ?_
  refine ds_rt ?_
  refine db_sum c V.b_sum (by rfl) ?_
  refine da_cons ?_ ?_
  refine de_lc c.calm sc_law_shadow.nd ?_ (blkOk_by (N := ["number", "size", "a", "i"]) (sc := defScope (top 32)) (own := [("a", 2), ("i", 3)]) (by decide +kernel)) (fun _ _ _ _ _ => (pg_tup (by exact c.calm) (pgs_cons (pg_name (i := 2) sc_law_shadow.nd rfl (.inl rfl)) (pgs_cons (pg_name (i := 3) sc_law_shadow.nd rfl (.inl rfl)) pgs_nil)))) (tg2_ok 2 3) (by decide) (fun _ _ _ _ _ _ => ?_) (fun _ _ _ _ _ _ => ?_)
  refine di_of ?_
  refine de_call f_law_cascade c (by decide) (by rfl) ?_
  refine da_cons ?_ ?_
  exact de_var (i := 0)
  refine da_cons ?_ ?_
  exact de_var (i := 1)
  exact da_nil
  exact dts_nil
  refine de_call f_law_choose (c.blk _ _ _ _ _) (by decide) (by rfl) ?_
  refine da_cons ?_ ?_
  exact de_var (i := 2)
  refine da_cons ?_ ?_
  refine de_sub ?_ ?_
  exact de_var (i := 3)
  exact de_int
  exact da_nil
  exact da_nil) i
theorem sc_law_raised : FnScope ["number", "size", "a", "i"] ["number", "size"] (defScope (top 33)) := ⟨rfl, rfl, rfl, by decide +kernel, rfl, by decide +kernel, by decide +kernel⟩
def m_law_raised : SM := (sRt (eA bSum (aCons (eLc [2, 3] (tg2 2 3) (iOf (eF 2 F_law_cascade (aCons (eVar 0) (aCons (eVar 1) aNil)))) tTrue (eF 2 F_law_choose (aCons (eVar 2) (aCons (e2 dAdd (eVar 3) (eC (.int 1))) aNil)))) aNil)))
theorem k_law_raised (V : Vx P w K mg base T) (f_law_choose : FnD P w K mg base T 1 "_law_choose" (top 30) ["points", "size"] F_law_choose) (f_law_cascade : FnD P w K mg base T 2 "_law_cascade" (top 31) ["number", "size"] F_law_cascade) (i : ∀ ds Q Z, F_law_raised ds Q Z → fnW 4 2 m_law_raised ds Q Z) : FnD P w K mg base T 3 "_law_raised" (top 33) ["number", "size"] F_law_raised :=
  fnD_mk V.d__law_raised sc_law_raised (fun _ _ _ _ _ _ us hl => match us, hl with | [_, _], _ => rfl) (fun f cdv A outer s H E g B c => by
  unfold m_law_raised
  refine dss_one ?_
  refine ds_rt ?_
  refine db_sum c V.b_sum (by rfl) ?_
  refine da_cons ?_ ?_
  refine de_lc c.calm sc_law_raised.nd ?_ (blkOk_by (N := ["number", "size", "a", "i"]) (sc := defScope (top 33)) (own := [("a", 2), ("i", 3)]) (by decide +kernel)) (fun _ _ _ _ _ => (pg_tup (by exact c.calm) (pgs_cons (pg_name (i := 2) sc_law_raised.nd rfl (.inl rfl)) (pgs_cons (pg_name (i := 3) sc_law_raised.nd rfl (.inl rfl)) pgs_nil)))) (tg2_ok 2 3) (by decide) (fun _ _ _ _ _ _ => ?_) (fun _ _ _ _ _ _ => ?_)
  refine di_of ?_
  refine de_call f_law_cascade c (by decide) (by rfl) ?_
  refine da_cons ?_ ?_
  exact de_var (i := 0)
  refine da_cons ?_ ?_
  exact de_var (i := 1)
  exact da_nil
  exact dts_nil
  refine de_call f_law_choose (c.blk _ _ _ _ _) (by decide) (by rfl) ?_
  refine da_cons ?_ ?_
  exact de_var (i := 2)
  refine da_cons ?_ ?_
  refine de_add ?_ ?_
  exact de_var (i := 3)
  exact de_int
  exact da_nil
  exact da_nil) i
theorem sc_law_grown : FnScope ["number", "size", "a", "i"] ["number", "size"] (defScope (top 34)) := ⟨rfl, rfl, rfl, by decide +kernel, rfl, by decide +kernel, by decide +kernel⟩
def m_law_grown : SM := (sRt (eA bSum (aCons (eLc [2, 3] (tg2 2 3) (iOf (eF 2 F_law_cascade (aCons (eVar 0) (aCons (eVar 1) aNil)))) tTrue (eF 2 F_law_choose (aCons (e2 dAdd (eVar 2) (eC (.int 1))) (aCons (e2 dAdd (eVar 3) (eC (.int 1))) aNil)))) aNil)))
theorem k_law_grown (V : Vx P w K mg base T) (f_law_choose : FnD P w K mg base T 1 "_law_choose" (top 30) ["points", "size"] F_law_choose) (f_law_cascade : FnD P w K mg base T 2 "_law_cascade" (top 31) ["number", "size"] F_law_cascade) (i : ∀ ds Q Z, F_law_grown ds Q Z → fnW 4 2 m_law_grown ds Q Z) : FnD P w K mg base T 3 "_law_grown" (top 34) ["number", "size"] F_law_grown :=
  fnD_mk V.d__law_grown sc_law_grown (fun _ _ _ _ _ _ us hl => match us, hl with | [_, _], _ => rfl) (fun f cdv A outer s H E g B c => by
  unfold m_law_grown
  refine dss_one ?_
  refine ds_rt ?_
  refine db_sum c V.b_sum (by rfl) ?_
  refine da_cons ?_ ?_
  refine de_lc c.calm sc_law_grown.nd ?_ (blkOk_by (N := ["number", "size", "a", "i"]) (sc := defScope (top 34)) (own := [("a", 2), ("i", 3)]) (by decide +kernel)) (fun _ _ _ _ _ => (pg_tup (by exact c.calm) (pgs_cons (pg_name (i := 2) sc_law_grown.nd rfl (.inl rfl)) (pgs_cons (pg_name (i := 3) sc_law_grown.nd rfl (.inl rfl)) pgs_nil)))) (tg2_ok 2 3) (by decide) (fun _ _ _ _ _ _ => ?_) (fun _ _ _ _ _ _ => ?_)
  refine di_of ?_
  refine de_call f_law_cascade c (by decide) (by rfl) ?_
  refine da_cons ?_ ?_
  exact de_var (i := 0)
  refine da_cons ?_ ?_
  exact de_var (i := 1)
  exact da_nil
  exact dts_nil
  refine de_call f_law_choose (c.blk _ _ _ _ _) (by decide) (by rfl) ?_
  refine da_cons ?_ ?_
  refine de_add ?_ ?_
  exact de_var (i := 2)
  exact de_int
  refine da_cons ?_ ?_
  refine de_add ?_ ?_
  exact de_var (i := 3)
  exact de_int
  exact da_nil
  exact da_nil) i
theorem sc_law_numbers_bad : FnScope ["draw"] ["draw"] (defScope (top 35)) := ⟨rfl, rfl, rfl, by decide +kernel, rfl, by decide +kernel, by decide +kernel⟩
def m_law_numbers_bad : SM := (sRt (eF 2 F_law_pick (aCons (eVar 0) (aCons (eLst (aCons (eC .non) (aCons (eC (.int (-1))) (aCons (eC (.bl true)) (aCons (eC (.str "5")) (aCons (e2 dAdd (e2 dPow (eC (.int 10)) (eC (.int 30))) (eC (.int 1))) (aCons (eTup (aCons (eC (.int 3)) aNil)) (aCons (eLst aNil) aNil)))))))) aNil))))
theorem k_law_numbers_bad (V : Vx P w K mg base T) (f_law_pick : FnD P w K mg base T 3 "_law_pick" (top 26) ["draw", "some"] F_law_pick) (i : ∀ ds Q Z, F_law_numbers_bad ds Q Z → fnW 1 1 m_law_numbers_bad ds Q Z) : FnD P w K mg base T 4 "_law_numbers_bad" (top 35) ["draw"] F_law_numbers_bad :=
  fnD_mk V.d__law_numbers_bad sc_law_numbers_bad (fun _ _ _ _ _ _ us hl => match us, hl with | [_], _ => rfl) (fun f cdv A outer s H E g B c => by
  unfold m_law_numbers_bad
  refine dss_one ?_
  refine ds_rt ?_
  refine de_call f_law_pick c (by decide) (by rfl) ?_
  refine da_cons ?_ ?_
  exact de_var (i := 0)
  refine da_cons ?_ ?_
  refine de_lst ?_
  refine da_cons ?_ ?_
  exact de_non
  refine da_cons ?_ ?_
  exact de_neg
  refine da_cons ?_ ?_
  exact de_bl
  refine da_cons ?_ ?_
  exact de_str
  refine da_cons ?_ ?_
  refine de_add ?_ ?_
  refine de_pow ?_ ?_
  exact de_int
  exact de_int
  exact de_int
  refine da_cons ?_ ?_
  refine de_tup ?_
  refine da_cons ?_ ?_
  exact de_int
  exact da_nil
  refine da_cons ?_ ?_
  refine de_lst ?_
  exact da_nil
  exact da_nil
  exact da_nil) i
theorem sc_law_drawn_number : FnScope ["draw"] ["draw"] (defScope (top 36)) := ⟨rfl, rfl, rfl, by decide +kernel, rfl, by decide +kernel, by decide +kernel⟩
def m_law_drawn_number : SM := (sRt (eF 2 F_law_pick (aCons (eVar 0) (aCons (eLst (aCons (eC (.int 0)) (aCons (eC (.int 1)) (aCons (eF 2 F_law_take (aCons (eVar 0) (aCons (eC (.int 9)) aNil))) (aCons (eF 2 F_law_take (aCons (eVar 0) (aCons (eC (.int 60)) aNil))) (aCons (eF 2 F_law_take (aCons (eVar 0) (aCons (eC (.int 3000)) aNil))) (aCons (eF 1 F_law_ten (aCons (eF 2 F_law_take (aCons (eVar 0) (aCons (eC (.int 31)) aNil))) aNil)) (aCons (eF 2 F_law_take (aCons (eVar 0) (aCons (e2 dPow (eC (.int 10)) (eC (.int 18))) aNil))) (aCons (e2 dPow (eC (.int 10)) (eC (.int 30))) aNil))))))))) aNil))))
theorem k_law_drawn_number (V : Vx P w K mg base T) (f_law_take : FnD P w K mg base T 2 "_law_take" (top 25) ["draw", "amount"] F_law_take) (f_law_pick : FnD P w K mg base T 3 "_law_pick" (top 26) ["draw", "some"] F_law_pick) (f_law_ten : FnD P w K mg base T 1 "_law_ten" (top 29) ["many"] F_law_ten) (i : ∀ ds Q Z, F_law_drawn_number ds Q Z → fnW 1 1 m_law_drawn_number ds Q Z) : FnD P w K mg base T 4 "_law_drawn_number" (top 36) ["draw"] F_law_drawn_number :=
  fnD_mk V.d__law_drawn_number sc_law_drawn_number (fun _ _ _ _ _ _ us hl => match us, hl with | [_], _ => rfl) (fun f cdv A outer s H E g B c => by
  unfold m_law_drawn_number
  refine dss_one ?_
  refine ds_rt ?_
  refine de_call f_law_pick c (by decide) (by rfl) ?_
  refine da_cons ?_ ?_
  exact de_var (i := 0)
  refine da_cons ?_ ?_
  refine de_lst ?_
  refine da_cons ?_ ?_
  exact de_int
  refine da_cons ?_ ?_
  exact de_int
  refine da_cons ?_ ?_
  refine de_call f_law_take c (by decide) (by rfl) ?_
  refine da_cons ?_ ?_
  exact de_var (i := 0)
  refine da_cons ?_ ?_
  exact de_int
  exact da_nil
  refine da_cons ?_ ?_
  refine de_call f_law_take c (by decide) (by rfl) ?_
  refine da_cons ?_ ?_
  exact de_var (i := 0)
  refine da_cons ?_ ?_
  exact de_int
  exact da_nil
  refine da_cons ?_ ?_
  refine de_call f_law_take c (by decide) (by rfl) ?_
  refine da_cons ?_ ?_
  exact de_var (i := 0)
  refine da_cons ?_ ?_
  exact de_int
  exact da_nil
  refine da_cons ?_ ?_
  refine de_call f_law_ten c (by decide) (by rfl) ?_
  refine da_cons ?_ ?_
  refine de_call f_law_take c (by decide) (by rfl) ?_
  refine da_cons ?_ ?_
  exact de_var (i := 0)
  refine da_cons ?_ ?_
  exact de_int
  exact da_nil
  exact da_nil
  refine da_cons ?_ ?_
  refine de_call f_law_take c (by decide) (by rfl) ?_
  refine da_cons ?_ ?_
  exact de_var (i := 0)
  refine da_cons ?_ ?_
  refine de_pow ?_ ?_
  exact de_int
  exact de_int
  exact da_nil
  refine da_cons ?_ ?_
  refine de_pow ?_ ?_
  exact de_int
  exact de_int
  exact da_nil
  exact da_nil) i
theorem sc_law_right : FnScope ["number", "size", "due", "goals", "a", "i", "one", "other"] ["number", "size"] (defScope (top 37)) := ⟨rfl, rfl, rfl, by decide +kernel, rfl, by decide +kernel, by decide +kernel⟩
def m_law_right : SM := (sSq (sSet 2 (eF 2 F_law_cascade (aCons (eVar 0) (aCons (eVar 1) aNil))))
  (sSq (sIf (tOo (tNt (tTru (eF 2 F_law_says (aCons (eLst (aCons (eF 2 F_cascade (aCons (eVar 0) (aCons (eVar 1) aNil))) (aCons (eF 2 (fun ds => F_cascade ([1, 0].map fun j => ds.getD j .non)) (aCons (eVar 1) (aCons (eVar 0) aNil))) aNil))) (aCons (eLst (aCons (eA bTup (aCons (eVar 2) aNil)) (aCons (eA bTup (aCons (eVar 2) aNil)) aNil))) aNil))))) (tBo (e2 dNe (eA bSum (aCons (eLc [4, 5] (tg2 4 5) (iOf (eVar 2)) tTrue (eF 2 F_law_choose (aCons (eVar 4) (aCons (eVar 5) aNil)))) aNil)) (eVar 0)))) (sRt (eC (.bl false))) sNx)
  (sSq (sIf (tOo (tBo (e2 dNe (eLc [4, 5] (tg2 4 5) (iOf (eVar 2)) (tOo (tBo (e2 dLt (eVar 4) (eVar 5))) (tBo (e2 dLt (eVar 5) (eC (.int 1))))) (eC (.int 1))) (eLst aNil))) (tBo (e2 dNe (eLc [6, 7] (tg2 6 7) (iZp (eVar 2) (eSl (eVar 2) (oSo (eC (.int 1))) oNo)) (tOo (tBo (e2 dLe (e2 dIx (eVar 6) (eC (.int 0))) (e2 dIx (eVar 7) (eC (.int 0))))) (tBo (e2 dNe (e2 dIx (eVar 6) (eC (.int 1))) (e2 dAdd (e2 dIx (eVar 7) (eC (.int 1))) (eC (.int 1)))))) (eC (.int 1))) (eLst aNil)))) (sRt (eC (.bl false))) sNx)
  (sSq (sSet 3 (eLst (aCons (eF 2 F_law_shadow (aCons (eVar 0) (aCons (eVar 1) aNil))) (aCons (eF 2 F_law_raised (aCons (eVar 0) (aCons (eVar 1) aNil))) (aCons (eF 2 F_law_grown (aCons (eVar 0) (aCons (eVar 1) aNil))) aNil)))))
  (sSq (sIf (tNt (tTru (eF 2 F_law_says (aCons (eLst (aCons (eF 2 F_shadow_many (aCons (eVar 0) (aCons (eVar 1) aNil))) (aCons (eF 2 F_raised_many (aCons (eVar 0) (aCons (eVar 1) aNil))) (aCons (eF 2 F_grown (aCons (eVar 0) (aCons (eVar 1) aNil))) aNil)))) (aCons (eVar 3) aNil))))) (sRt (eC (.bl false))) sNx)
  (sRt (eF 2 F_law_says (aCons (eLst (aCons (eF 2 (fun ds => F_shadow_many ([1, 0].map fun j => ds.getD j .non)) (aCons (eVar 1) (aCons (eVar 0) aNil))) (aCons (eF 2 (fun ds => F_raised_many ([1, 0].map fun j => ds.getD j .non)) (aCons (eVar 1) (aCons (eVar 0) aNil))) (aCons (eF 2 (fun ds => F_grown ([1, 0].map fun j => ds.getD j .non)) (aCons (eVar 1) (aCons (eVar 0) aNil))) aNil)))) (aCons (eVar 3) aNil)))))))))
theorem k_law_right (V : Vx P w K mg base T) (f_cascade : FnD P w K mg base T 5 "cascade" (top 18) ["number", "size"] F_cascade) (f_shadow_many : FnD P w K mg base T 5 "shadow_many" (top 19) ["number", "size"] F_shadow_many) (f_raised_many : FnD P w K mg base T 5 "raised_many" (top 20) ["number", "size"] F_raised_many) (f_grown : FnD P w K mg base T 5 "grown" (top 21) ["number", "size"] F_grown) (f_law_says : FnD P w K mg base T 1 "_law_says" (top 28) ["told_here", "due"] F_law_says) (f_law_choose : FnD P w K mg base T 1 "_law_choose" (top 30) ["points", "size"] F_law_choose) (f_law_cascade : FnD P w K mg base T 2 "_law_cascade" (top 31) ["number", "size"] F_law_cascade) (f_law_shadow : FnD P w K mg base T 3 "_law_shadow" (top 32) ["number", "size"] F_law_shadow) (f_law_raised : FnD P w K mg base T 3 "_law_raised" (top 33) ["number", "size"] F_law_raised) (f_law_grown : FnD P w K mg base T 3 "_law_grown" (top 34) ["number", "size"] F_law_grown) (i : ∀ ds Q Z, F_law_right ds Q Z → fnW 8 2 m_law_right ds Q Z) : FnD P w K mg base T 6 "_law_right" (top 37) ["number", "size"] F_law_right :=
  fnD_mk V.d__law_right sc_law_right (fun _ _ _ _ _ _ us hl => match us, hl with | [_, _], _ => rfl) (fun f cdv A outer s H E g B c => by
  unfold m_law_right
  refine dss_cons ?_ ?_
  refine ds_set (i := 2) sc_law_right.nd ?_
  refine de_call f_law_cascade c (by decide) (by rfl) ?_
  refine da_cons ?_ ?_
  exact de_var (i := 0)
  refine da_cons ?_ ?_
  exact de_var (i := 1)
  exact da_nil
  refine dss_cons ?_ ?_
  refine ds_if ?_ ?_ ?_
  refine dw_t ?_
  refine dw_or ?_ ?_
  refine dt_not ?_
  refine dt_tru ?_
  refine de_call f_law_says c (by decide) (by rfl) ?_
  refine da_cons ?_ ?_
  refine de_lst ?_
  refine da_cons ?_ ?_
  refine de_call f_cascade c (by decide) (by rfl) ?_
  refine da_cons ?_ ?_
  exact de_var (i := 0)
  refine da_cons ?_ ?_
  exact de_var (i := 1)
  exact da_nil
  refine da_cons ?_ ?_
  refine de_callK0 (js := [1, 0]) f_cascade c (by decide) (by rfl) ?_ (fun _ _ _ _ _ _ ws hl => match ws, hl with | [_, _], _ => rfl)
  refine dk_cons ?_ ?_
  exact de_var (i := 1)
  refine dk_cons ?_ ?_
  exact de_var (i := 0)
  exact dk_nil
  exact da_nil
  refine da_cons ?_ ?_
  refine de_lst ?_
  refine da_cons ?_ ?_
  refine db_tuple V.b_tuple (by rfl) ?_
  refine da_cons ?_ ?_
  exact de_var (i := 2)
  exact da_nil
  refine da_cons ?_ ?_
  refine db_tuple V.b_tuple (by rfl) ?_
  refine da_cons ?_ ?_
  exact de_var (i := 2)
  exact da_nil
  exact da_nil
  exact da_nil
  refine dw_or1 ?_
  refine dt_ne c ?_ ?_
  refine db_sum c V.b_sum (by rfl) ?_
  refine da_cons ?_ ?_
  refine de_lc c.calm sc_law_right.nd ?_ (blkOk_by (N := ["number", "size", "due", "goals", "a", "i", "one", "other"]) (sc := defScope (top 37)) (own := [("a", 4), ("i", 5)]) (by decide +kernel)) (fun _ _ _ _ _ => (pg_tup (by exact c.calm) (pgs_cons (pg_name (i := 4) sc_law_right.nd rfl (.inl rfl)) (pgs_cons (pg_name (i := 5) sc_law_right.nd rfl (.inl rfl)) pgs_nil)))) (tg2_ok 4 5) (by decide) (fun _ _ _ _ _ _ => ?_) (fun _ _ _ _ _ _ => ?_)
  refine di_of ?_
  exact de_var (i := 2)
  exact dts_nil
  refine de_call f_law_choose (c.blk _ _ _ _ _) (by decide) (by rfl) ?_
  refine da_cons ?_ ?_
  exact de_var (i := 4)
  refine da_cons ?_ ?_
  exact de_var (i := 5)
  exact da_nil
  exact da_nil
  exact de_var (i := 0)
  refine dss_one ?_
  refine ds_rt ?_
  exact de_bl
  exact dss_nil
  refine dss_cons ?_ ?_
  refine ds_if ?_ ?_ ?_
  refine dw_t ?_
  refine dw_or ?_ ?_
  refine dt_ne c ?_ ?_
  refine de_lc c.calm sc_law_right.nd ?_ (blkOk_by (N := ["number", "size", "due", "goals", "a", "i", "one", "other"]) (sc := defScope (top 37)) (own := [("a", 4), ("i", 5)]) (by decide +kernel)) (fun _ _ _ _ _ => (pg_tup (by exact c.calm) (pgs_cons (pg_name (i := 4) sc_law_right.nd rfl (.inl rfl)) (pgs_cons (pg_name (i := 5) sc_law_right.nd rfl (.inl rfl)) pgs_nil)))) (tg2_ok 4 5) (by decide) (fun _ _ _ _ _ _ => ?_) (fun _ _ _ _ _ _ => ?_)
  refine di_of ?_
  exact de_var (i := 2)
  refine dts_one ?_
  refine dw_t ?_
  refine dw_or ?_ ?_
  refine dt_lt ?_ ?_
  exact de_var (i := 4)
  exact de_var (i := 5)
  refine dw_or1 ?_
  refine dt_lt ?_ ?_
  exact de_var (i := 5)
  exact de_int
  exact de_int
  refine de_lst ?_
  exact da_nil
  refine dw_or1 ?_
  refine dt_ne c ?_ ?_
  refine de_lc c.calm sc_law_right.nd ?_ (blkOk_by (N := ["number", "size", "due", "goals", "a", "i", "one", "other"]) (sc := defScope (top 37)) (own := [("one", 6), ("other", 7)]) (by decide +kernel)) (fun _ _ _ _ _ => (pg_tup (by exact c.calm) (pgs_cons (pg_name (i := 6) sc_law_right.nd rfl (.inl rfl)) (pgs_cons (pg_name (i := 7) sc_law_right.nd rfl (.inl rfl)) pgs_nil)))) (tg2_ok 6 7) (by decide) (fun _ _ _ _ _ _ => ?_) (fun _ _ _ _ _ _ => ?_)
  refine di_zp (by rfl) V.b_zip ?_ ?_
  exact de_var (i := 2)
  refine de_sl ?_ ?_ ?_
  exact de_var (i := 2)
  refine do_so ?_
  exact de_int
  exact do_no
  refine dts_one ?_
  refine dw_t ?_
  refine dw_or ?_ ?_
  refine dt_le ?_ ?_
  refine de_ix ?_ ?_
  exact de_var (i := 6)
  exact de_int
  refine de_ix ?_ ?_
  exact de_var (i := 7)
  exact de_int
  refine dw_or1 ?_
  refine dt_ne (c.blk _ _ _ _ _) ?_ ?_
  refine de_ix ?_ ?_
  exact de_var (i := 6)
  exact de_int
  refine de_add ?_ ?_
  refine de_ix ?_ ?_
  exact de_var (i := 7)
  exact de_int
  exact de_int
  exact de_int
  refine de_lst ?_
  exact da_nil
  refine dss_one ?_
  refine ds_rt ?_
  exact de_bl
  exact dss_nil
  refine dss_cons ?_ ?_
  refine ds_set (i := 3) sc_law_right.nd ?_
  refine de_lst ?_
  refine da_cons ?_ ?_
  refine de_call f_law_shadow c (by decide) (by rfl) ?_
  refine da_cons ?_ ?_
  exact de_var (i := 0)
  refine da_cons ?_ ?_
  exact de_var (i := 1)
  exact da_nil
  refine da_cons ?_ ?_
  refine de_call f_law_raised c (by decide) (by rfl) ?_
  refine da_cons ?_ ?_
  exact de_var (i := 0)
  refine da_cons ?_ ?_
  exact de_var (i := 1)
  exact da_nil
  refine da_cons ?_ ?_
  refine de_call f_law_grown c (by decide) (by rfl) ?_
  refine da_cons ?_ ?_
  exact de_var (i := 0)
  refine da_cons ?_ ?_
  exact de_var (i := 1)
  exact da_nil
  exact da_nil
  refine dss_cons ?_ ?_
  refine ds_if ?_ ?_ ?_
  refine dt_not ?_
  refine dt_tru ?_
  refine de_call f_law_says c (by decide) (by rfl) ?_
  refine da_cons ?_ ?_
  refine de_lst ?_
  refine da_cons ?_ ?_
  refine de_call f_shadow_many c (by decide) (by rfl) ?_
  refine da_cons ?_ ?_
  exact de_var (i := 0)
  refine da_cons ?_ ?_
  exact de_var (i := 1)
  exact da_nil
  refine da_cons ?_ ?_
  refine de_call f_raised_many c (by decide) (by rfl) ?_
  refine da_cons ?_ ?_
  exact de_var (i := 0)
  refine da_cons ?_ ?_
  exact de_var (i := 1)
  exact da_nil
  refine da_cons ?_ ?_
  refine de_call f_grown c (by decide) (by rfl) ?_
  refine da_cons ?_ ?_
  exact de_var (i := 0)
  refine da_cons ?_ ?_
  exact de_var (i := 1)
  exact da_nil
  exact da_nil
  refine da_cons ?_ ?_
  exact de_var (i := 3)
  exact da_nil
  refine dss_one ?_
  refine ds_rt ?_
  exact de_bl
  exact dss_nil
  refine dss_one ?_
  refine ds_rt ?_
  refine de_call f_law_says c (by decide) (by rfl) ?_
  refine da_cons ?_ ?_
  refine de_lst ?_
  refine da_cons ?_ ?_
  refine de_callK0 (js := [1, 0]) f_shadow_many c (by decide) (by rfl) ?_ (fun _ _ _ _ _ _ ws hl => match ws, hl with | [_, _], _ => rfl)
  refine dk_cons ?_ ?_
  exact de_var (i := 1)
  refine dk_cons ?_ ?_
  exact de_var (i := 0)
  exact dk_nil
  refine da_cons ?_ ?_
  refine de_callK0 (js := [1, 0]) f_raised_many c (by decide) (by rfl) ?_ (fun _ _ _ _ _ _ ws hl => match ws, hl with | [_, _], _ => rfl)
  refine dk_cons ?_ ?_
  exact de_var (i := 1)
  refine dk_cons ?_ ?_
  exact de_var (i := 0)
  exact dk_nil
  refine da_cons ?_ ?_
  refine de_callK0 (js := [1, 0]) f_grown c (by decide) (by rfl) ?_ (fun _ _ _ _ _ _ ws hl => match ws, hl with | [_, _], _ => rfl)
  refine dk_cons ?_ ?_
  exact de_var (i := 1)
  refine dk_cons ?_ ?_
  exact de_var (i := 0)
  exact dk_nil
  exact da_nil
  refine da_cons ?_ ?_
  exact de_var (i := 3)
  exact da_nil) i
theorem sc_law_pair_right : FnScope ["draw", "size", "one", "other", "low", "high", "work"] ["draw"] (defScope (top 38)) := ⟨rfl, rfl, rfl, by decide +kernel, rfl, by decide +kernel, by decide +kernel⟩
def m_law_pair_right : SM := (sSq (sTg (tg2 1 2) (eTup (aCons (e2 dAdd (eC (.int 1)) (eF 2 F_law_take (aCons (eVar 0) (aCons (eC (.int 39)) aNil)))) (aCons (eF 1 F_law_drawn_number (aCons (eVar 0) aNil)) aNil))))
  (sSq (sSet 3 (eF 2 F_law_pick (aCons (eVar 0) (aCons (eLst (aCons (eA bMin2 (aCons (e2 dPow (eC (.int 10)) (eC (.int 30))) (aCons (eF 2 F_law_raised (aCons (eVar 2) (aCons (eVar 1) aNil))) aNil))) (aCons (eA bMin2 (aCons (e2 dPow (eC (.int 10)) (eC (.int 30))) (aCons (e2 dAdd (eF 2 F_law_raised (aCons (eVar 2) (aCons (eVar 1) aNil))) (eC (.int 1))) aNil))) (aCons (eF 1 F_law_drawn_number (aCons (eVar 0) aNil)) aNil)))) aNil))))
  (sSq (sIf (tBo (e2 dNe (e2 dLe (eVar 3) (eF 2 F_raised_many (aCons (eVar 2) (aCons (eVar 1) aNil)))) (e2 dLe (eF 2 F_shadow_many (aCons (eVar 3) (aCons (e2 dAdd (eVar 1) (eC (.int 1))) aNil))) (eVar 2)))) (sRt (eC (.bl false))) sNx)
  (sSq (sTg (tg2 4 5) (eTup (aCons (eA bMin2 (aCons (eVar 2) (aCons (eVar 3) aNil))) (aCons (eA bMax2 (aCons (eVar 2) (aCons (eVar 3) aNil))) aNil))))
  (sRt (e2 dEq (eLc [6] (tgN 6) (iOf (eLst (aCons (eC (.fn "shadow_many")) (aCons (eC (.fn "raised_many")) (aCons (eC (.fn "grown")) aNil))))) (tBo (e2 dGt (eL 6 famW (aCons (eVar 4) (aCons (eVar 1) aNil))) (eL 6 famW (aCons (eVar 5) (aCons (eVar 1) aNil))))) (eVar 6)) (eLst aNil)))))))
theorem k_law_pair_right (V : Vx P w K mg base T) (f_shadow_many : FnD P w K mg base T 5 "shadow_many" (top 19) ["number", "size"] F_shadow_many) (f_raised_many : FnD P w K mg base T 5 "raised_many" (top 20) ["number", "size"] F_raised_many) (f_grown : FnD P w K mg base T 5 "grown" (top 21) ["number", "size"] F_grown) (f_law_take : FnD P w K mg base T 2 "_law_take" (top 25) ["draw", "amount"] F_law_take) (f_law_pick : FnD P w K mg base T 3 "_law_pick" (top 26) ["draw", "some"] F_law_pick) (f_law_raised : FnD P w K mg base T 3 "_law_raised" (top 33) ["number", "size"] F_law_raised) (f_law_drawn_number : FnD P w K mg base T 4 "_law_drawn_number" (top 36) ["draw"] F_law_drawn_number) (i : ∀ ds Q Z, F_law_pair_right ds Q Z → fnW 7 1 m_law_pair_right ds Q Z) : FnD P w K mg base T 6 "_law_pair_right" (top 38) ["draw"] F_law_pair_right :=
  fnD_mk V.d__law_pair_right sc_law_pair_right (fun _ _ _ _ _ _ us hl => match us, hl with | [_], _ => rfl) (fun f cdv A outer s H E g B c => by
  unfold m_law_pair_right
  refine dss_cons ?_ ?_
  refine ds_tg ?_ (pg_tup (by exact c.calm) (pgs_cons (pg_name (i := 1) sc_law_pair_right.nd rfl (.inr rfl)) (pgs_cons (pg_name (i := 2) sc_law_pair_right.nd rfl (.inl rfl)) pgs_nil))) (tg2_ok 1 2)
  refine de_tup ?_
  refine da_cons ?_ ?_
  refine de_add ?_ ?_
  exact de_int
  refine de_call f_law_take c (by decide) (by rfl) ?_
  refine da_cons ?_ ?_
  exact de_var (i := 0)
  refine da_cons ?_ ?_
  exact de_int
  exact da_nil
  refine da_cons ?_ ?_
  refine de_call f_law_drawn_number c (by decide) (by rfl) ?_
  refine da_cons ?_ ?_
  exact de_var (i := 0)
  exact da_nil
  exact da_nil
  refine dss_cons ?_ ?_
  refine ds_set (i := 3) sc_law_pair_right.nd ?_
  refine de_call f_law_pick c (by decide) (by rfl) ?_
  refine da_cons ?_ ?_
  exact de_var (i := 0)
  refine da_cons ?_ ?_
  refine de_lst ?_
  refine da_cons ?_ ?_
  refine db_min c V.b_min (by rfl) ?_
  refine da_cons ?_ ?_
  refine de_pow ?_ ?_
  exact de_int
  exact de_int
  refine da_cons ?_ ?_
  refine de_call f_law_raised c (by decide) (by rfl) ?_
  refine da_cons ?_ ?_
  exact de_var (i := 2)
  refine da_cons ?_ ?_
  exact de_var (i := 1)
  exact da_nil
  exact da_nil
  refine da_cons ?_ ?_
  refine db_min c V.b_min (by rfl) ?_
  refine da_cons ?_ ?_
  refine de_pow ?_ ?_
  exact de_int
  exact de_int
  refine da_cons ?_ ?_
  refine de_add ?_ ?_
  refine de_call f_law_raised c (by decide) (by rfl) ?_
  refine da_cons ?_ ?_
  exact de_var (i := 2)
  refine da_cons ?_ ?_
  exact de_var (i := 1)
  exact da_nil
  exact de_int
  exact da_nil
  refine da_cons ?_ ?_
  refine de_call f_law_drawn_number c (by decide) (by rfl) ?_
  refine da_cons ?_ ?_
  exact de_var (i := 0)
  exact da_nil
  exact da_nil
  exact da_nil
  refine dss_cons ?_ ?_
  refine ds_if ?_ ?_ ?_
  refine dt_ne c ?_ ?_
  refine dc_le ?_ ?_
  exact de_var (i := 3)
  refine de_call f_raised_many c (by decide) (by rfl) ?_
  refine da_cons ?_ ?_
  exact de_var (i := 2)
  refine da_cons ?_ ?_
  exact de_var (i := 1)
  exact da_nil
  refine dc_le ?_ ?_
  refine de_call f_shadow_many c (by decide) (by rfl) ?_
  refine da_cons ?_ ?_
  exact de_var (i := 3)
  refine da_cons ?_ ?_
  refine de_add ?_ ?_
  exact de_var (i := 1)
  exact de_int
  exact da_nil
  exact de_var (i := 2)
  refine dss_one ?_
  refine ds_rt ?_
  exact de_bl
  exact dss_nil
  refine dss_cons ?_ ?_
  refine ds_tg ?_ (pg_tup (by exact c.calm) (pgs_cons (pg_name (i := 4) sc_law_pair_right.nd rfl (.inr rfl)) (pgs_cons (pg_name (i := 5) sc_law_pair_right.nd rfl (.inr rfl)) pgs_nil))) (tg2_ok 4 5)
  refine de_tup ?_
  refine da_cons ?_ ?_
  refine db_min c V.b_min (by rfl) ?_
  refine da_cons ?_ ?_
  exact de_var (i := 2)
  refine da_cons ?_ ?_
  exact de_var (i := 3)
  exact da_nil
  refine da_cons ?_ ?_
  refine db_max c V.b_max (by rfl) ?_
  refine da_cons ?_ ?_
  exact de_var (i := 2)
  refine da_cons ?_ ?_
  exact de_var (i := 3)
  exact da_nil
  exact da_nil
  refine dss_one ?_
  refine ds_rt ?_
  refine dc_eq c ?_ ?_
  refine de_lc c.calm sc_law_pair_right.nd ?_ (blkOk_by (N := ["draw", "size", "one", "other", "low", "high", "work"]) (sc := defScope (top 38)) (own := [("work", 6)]) (by decide +kernel)) (fun _ _ _ _ _ => (pg_name (i := 6) sc_law_pair_right.nd rfl (.inl rfl))) (tgN_ok 6) (by decide) (fun _ _ _ _ _ _ => ?_) (fun _ _ _ _ _ _ => ?_)
  refine di_of ?_
  refine de_lst ?_
  refine da_cons ?_ ?_
  exact dv_fn V.d_shadow_many (by rfl)
  refine da_cons ?_ ?_
  exact dv_fn V.d_raised_many (by rfl)
  refine da_cons ?_ ?_
  exact dv_fn V.d_grown (by rfl)
  exact da_nil
  refine dts_one ?_
  refine dt_gt ?_ ?_
  refine de_callL (i := 6) (Fm := famW) (famW_ok (by decide) f_shadow_many f_raised_many f_grown) (c.blk _ _ _ _ _) ?_
  refine da_cons ?_ ?_
  exact de_var (i := 4)
  refine da_cons ?_ ?_
  exact de_var (i := 1)
  exact da_nil
  refine de_callL (i := 6) (Fm := famW) (famW_ok (by decide) f_shadow_many f_raised_many f_grown) (c.blk _ _ _ _ _) ?_
  refine da_cons ?_ ?_
  exact de_var (i := 5)
  refine da_cons ?_ ?_
  exact de_var (i := 1)
  exact da_nil
  exact de_var (i := 6)
  refine de_lst ?_
  exact da_nil) i
theorem sc_law : FnScope ["script", "draw", "turn", "work", "error", "other"] ["script"] (defScope (top 39)) := ⟨rfl, rfl, rfl, by decide +kernel, rfl, by decide +kernel, by decide +kernel⟩

end
end K41

set_option Elab.async false
set_option linter.all false
set_option maxRecDepth 100000
set_option maxHeartbeats 4000000
/-! K41M: binomials, cascades: plain Lean. -/
namespace DL
open PySem
theorem bin_zero (n : Nat) : bin n 0 = 1 := by
  cases n <;> rfl
theorem bin_succ (n k : Nat) : bin (n + 1) (k + 1) = bin n k + bin n (k + 1) := rfl
theorem bin_over : ∀ (n k : Nat), n < k → bin n k = 0
  | 0, 0, h => absurd h (by omega)
  | 0, k + 1, _ => rfl
  | n + 1, 0, h => absurd h (by omega)
  | n + 1, k + 1, h => by
    rw [bin_succ, bin_over n k (by omega), bin_over n (k + 1) (by omega)]
theorem bin_self : ∀ n : Nat, bin n n = 1
  | 0 => rfl
  | n + 1 => by
    rw [bin_succ, bin_self n, bin_over n (n + 1) (by omega)]
theorem bin_one : ∀ n : Nat, bin n 1 = n
  | 0 => rfl
  | n + 1 => by
    rw [bin_succ, bin_zero, bin_one n]
    omega
theorem bin_pos : ∀ (n k : Nat), k ≤ n → 1 ≤ bin n k
  | n, 0, _ => by rw [bin_zero]; omega
  | 0, k + 1, h => absurd h (by omega)
  | n + 1, k + 1, h => by
    rw [bin_succ]
    have := bin_pos n k (by omega)
    omega
theorem bin_mono (k : Nat) : ∀ {m n : Nat}, m ≤ n → bin m k ≤ bin n k := by
  intro m n h
  induction n with
  | zero =>
    have e : m = 0 := by omega
    rw [e]
    omega
  | succ n ih =>
    by_cases e : m = n + 1
    · rw [e]
      omega
    · have z := ih (by omega)
      cases k with
      | zero => rw [bin_zero, bin_zero]; omega
      | succ k =>
        rw [bin_succ]
        omega
/-- (k + 1) times C(n, k + 1) is (n - k) times C(n, k) -/
theorem bin_step : ∀ (n k : Nat), bin n (k + 1) * (k + 1) = bin n k * (n - k)
  | 0, 0 => rfl
  | 0, k + 1 => by
    rw [bin_over 0 (k + 2) (by omega), bin_over 0 (k + 1) (by omega)]
    omega
  | n + 1, 0 => by
    rw [bin_one, bin_zero]
    omega
  | n + 1, k + 1 => by
    have h1 := bin_step n k
    have h2 := bin_step n (k + 1)
    rw [bin_succ n (k + 1), bin_succ n k]
    by_cases hk : k + 1 ≤ n
    · obtain ⟨d, rfl⟩ : ∃ d, n = k + 1 + d := ⟨n - (k + 1), by omega⟩
      have e1 : k + 1 + d - k = d + 1 := by omega
      have e2 : k + 1 + d - (k + 1) = d := by omega
      have e3 : k + 1 + d + 1 - (k + 1) = d + 1 := by omega
      rw [e1] at h1
      rw [e2] at h2
      rw [e3]
      have h3 : (bin (k + 1 + d) (k + 1) + bin (k + 1 + d) (k + 1 + 1)) * (k + 1 + 1) = bin (k + 1 + d) (k + 1) * (k + 1) + bin (k + 1 + d) (k + 1) + bin (k + 1 + d) (k + 1 + 1) * (k + 1 + 1) := by
        rw [Nat.add_mul, Nat.mul_succ (bin (k + 1 + d) (k + 1)) (k + 1)]
      rw [h3, h1, h2, Nat.add_mul, Nat.mul_succ (bin (k + 1 + d) (k + 1)) d]
      omega
    · by_cases hn : n = k
      · subst hn
        rw [bin_over n (n + 1) (by omega), bin_over n (n + 1 + 1) (by omega), bin_self]
        omega
      · rw [bin_over n k (by omega), bin_over n (k + 1) (by omega), bin_over n (k + 1 + 1) (by omega)]
        omega
theorem bin_le_pow : ∀ (n k : Nat), bin n k ≤ (n + 1) ^ k
  | n, 0 => by rw [bin_zero]; exact Nat.one_le_pow _ _ (by omega)
  | 0, k + 1 => by rw [bin_over 0 (k + 1) (by omega)]; exact Nat.zero_le _
  | n + 1, k + 1 => by
    have h := bin_step (n + 1) k
    have h1 : bin (n + 1) (k + 1) ≤ bin (n + 1) (k + 1) * (k + 1) := Nat.le_mul_of_pos_right _ (by omega)
    have h2 : bin (n + 1) k * (n + 1 - k) ≤ bin (n + 1) k * (n + 1 + 1) := Nat.mul_le_mul_left _ (by omega)
    have h3 := Nat.mul_le_mul_right (n + 1 + 1) (bin_le_pow (n + 1) k)
    rw [Nat.pow_succ]
    omega
/-! ### comb -/
def fac : Nat → Nat
  | 0 => 1
  | n + 1 => fac n * (n + 1)
theorem fac_pos : ∀ n, 1 ≤ fac n
  | 0 => by decide
  | n + 1 => by
    unfold fac
    have := fac_pos n
    exact Nat.le_trans this (Nat.le_mul_of_pos_right _ (by omega))
theorem fall_bin (n : Nat) : ∀ k : Nat, k ≤ n → Builtin.Math.fallingProduct (n : Int) k = ((fac k * bin n k : Nat) : Int)
  | 0, _ => by
    rw [W.mc_fp_zero, bin_zero]
    rfl
  | k + 1, h => by
    rw [W.mc_fp_succ, fall_bin n k (by omega)]
    have e : (n : Int) - (k : Int) = ((n - k : Nat) : Int) := by omega
    rw [e, ← Int.natCast_mul]
    congr 1
    show fac k * bin n k * (n - k) = fac k * (k + 1) * bin n (k + 1)
    rw [Nat.mul_assoc, ← bin_step n k, Nat.mul_assoc, Nat.mul_comm (k + 1)]
theorem fall_fac (k : Nat) : Builtin.Math.fallingProduct (k : Int) k = (fac k : Int) := by
  rw [fall_bin k k (by omega), bin_self, Nat.mul_one]
theorem bin_sym : ∀ (a b : Nat), bin (a + b) a = bin (a + b) b
  | 0, b => by rw [bin_zero, Nat.zero_add, bin_self]
  | a + 1, 0 => by rw [bin_zero, Nat.add_zero, bin_self]
  | a + 1, b + 1 => by
    have h1 := bin_sym a (b + 1)
    have h2 := bin_sym (a + 1) b
    have e1 : a + 1 + (b + 1) = (a + (b + 1)) + 1 := by omega
    have e2 : a + 1 + b = a + (b + 1) := by omega
    rw [e2] at h2
    rw [e1, bin_succ, bin_succ, h1, h2]
    omega
theorem comb_bin {n k : Int} (h0 : 0 ≤ k) (h1 : k ≤ n) : W.mcComb n k = (bin n.toNat k.toNat : Int) := by
  obtain ⟨N, rfl⟩ : ∃ N : Nat, n = (N : Int) := ⟨n.toNat, by omega⟩
  obtain ⟨J, rfl⟩ : ∃ J : Nat, k = (J : Int) := ⟨k.toNat, by omega⟩
  have key : ∀ m : Nat, m ≤ N → bin N m = bin N J → min (J : Int) ((N : Int) - J) = (m : Int) → W.mcComb N J = (bin N J : Int) := fun m hm hb e => by
    rw [W.mcComb_at h0 h1 e]
    show Builtin.Math.fallingProduct (N : Int) m / Builtin.Math.fallingProduct (m : Int) m = _
    rw [fall_bin N m hm, fall_fac, hb, Int.natCast_mul]
    exact Int.mul_ediv_cancel_left _ (by have := fac_pos m; omega)
  show W.mcComb N J = (bin N J : Int)
  by_cases h : J ≤ N - J
  · exact key J (by omega) rfl (by omega)
  · refine key (N - J) (by omega) ?_ (by omega)
    have e : J + (N - J) = N := by omega
    have z := bin_sym J (N - J)
    rw [e] at z
    exact z.symm
theorem Ch_at {n k : Int} (h0 : 0 ≤ k) (h1 : k ≤ n) : Ch n k = (bin n.toNat k.toNat : Int) := by
  unfold Ch
  rw [if_neg (by omega)]
theorem Ch_nat (n k : Nat) : Ch n k = (bin n k : Int) := by
  unfold Ch
  by_cases h : n < k
  · rw [if_pos (by omega), bin_over n k h]
    rfl
  · rw [if_neg (by omega)]
    rfl
/-- C(n, k) is not long -/
theorem bin_log {n k : Nat} (h1 : n < 2 ^ 200) (h2 : k ≤ 60) : bin n k < 2 ^ 13000 := by
  have a := bin_le_pow n k
  have b : (n + 1) ^ k ≤ (2 ^ 201) ^ k := Nat.pow_le_pow_left (by omega) k
  rw [← Nat.pow_mul] at b
  have c : 2 ^ (201 * k) < 2 ^ 13000 := Nat.pow_lt_pow_right (by omega) (by omega)
  omega
/-! ### the greatest point number -/
theorem bin_low (s : Nat) (hs : 1 ≤ s) : ∀ d : Nat, d + 1 ≤ bin (s + d) s
  | 0 => by
    show 1 ≤ bin s s
    rw [bin_self]; omega
  | d + 1 => by
    obtain ⟨t, rfl⟩ : ∃ t, s = t + 1 := ⟨s - 1, by omega⟩
    have z := bin_low (t + 1) hs d
    have e : t + 1 + (d + 1) = (t + 1 + d) + 1 := by omega
    rw [e, bin_succ]
    have w := bin_pos (t + 1 + d) t (by omega)
    omega
theorem gpF_spec (n s : Nat) : ∀ f a : Nat, bin a s ≤ n → n < bin (a + f + 1) s → a ≤ gpF n s f a ∧ bin (gpF n s f a) s ≤ n ∧ n < bin (gpF n s f a + 1) s
  | 0, a, h1, h2 => ⟨Nat.le_refl _, h1, h2⟩
  | f + 1, a, h1, h2 => by
    unfold gpF
    by_cases h : bin (a + 1) s ≤ n
    · rw [if_pos h]
      have e : a + 1 + f + 1 = a + (f + 1) + 1 := by omega
      obtain ⟨z1, z2⟩ := gpF_spec n s f (a + 1) h (by rw [e]; exact h2)
      exact ⟨by omega, z2⟩
    · rw [if_neg h]
      exact ⟨Nat.le_refl _, h1, by omega⟩
theorem gp_spec {n s : Nat} (hs : 1 ≤ s) (hn : 1 ≤ n) : s ≤ gp n s ∧ bin (gp n s) s ≤ n ∧ n < bin (gp n s + 1) s := by
  unfold gp
  refine gpF_spec n s (n + 1) s (by rw [bin_self]; exact hn) ?_
  have z := bin_low s hs (n + 2)
  have e : s + (n + 1) + 1 = s + (n + 2) := by omega
  rw [e]
  omega
theorem gp_uniq {n s a : Nat} (hs : 1 ≤ s) (hn : 1 ≤ n) (h1 : bin a s ≤ n) (h2 : n < bin (a + 1) s) : a = gp n s := by
  obtain ⟨z1, z2, z3⟩ := gp_spec hs hn
  by_cases h : a < gp n s
  · have w := bin_mono s (m := a + 1) (n := gp n s) (by omega)
    omega
  · by_cases h' : gp n s < a
    · have w := bin_mono s (m := gp n s + 1) (n := a) (by omega)
      omega
    · omega
/-- a point number is not far above -/
theorem gp_bound {n s a : Nat} (hs : 1 ≤ s) (h : bin a s ≤ n) : a ≤ n + s := by
  by_cases q : a ≤ s
  · omega
  · have z := bin_low s hs (a - s)
    have e : s + (a - s) = a := by omega
    rw [e] at z
    omega
end DL

set_option Elab.async false
set_option linter.all false
/-! K41N: cascades: sums, shadows, raised ones: plain Lean. -/
namespace DL
theorem casc_zero (s : Nat) : casc s 0 = [] := by
  cases s <;> rfl
theorem casc_step {s n : Nat} (h : 0 < n) : casc (s + 1) n = (gp n (s + 1), s + 1) :: casc s (n - bin (gp n (s + 1)) (s + 1)) := by
  show (if n = 0 then [] else _) = _
  rw [if_neg (by omega)]
theorem left_lt {s n : Nat} (h : 0 < n) : n - bin (gp n (s + 1)) (s + 1) < bin (gp n (s + 1)) s := by
  obtain ⟨z1, z2, z3⟩ := gp_spec (n := n) (s := s + 1) (by omega) (by omega)
  rw [bin_succ] at z3
  omega
/-- a step: a, what is left -/
theorem gp_step {s n : Nat} (h : 0 < n) : ∃ a r, gp n (s + 1) = a ∧ s + 1 ≤ a ∧ n = bin a (s + 1) + r ∧ r < bin a s ∧ casc (s + 1) n = (a, s + 1) :: casc s r := by
  obtain ⟨z1, z2, z3⟩ := gp_spec (n := n) (s := s + 1) (by omega) (by omega)
  exact ⟨_, n - bin (gp n (s + 1)) (s + 1), rfl, z1, by omega, left_lt h, casc_step h⟩
theorem raised_z (s : Nat) : raisedN s 0 = 0 := by
  unfold raisedN
  rw [casc_zero]; rfl
theorem shadow_z (s : Nat) : shadowN s 0 = 0 := by
  unfold shadowN
  rw [casc_zero]; rfl
theorem raised_0 (n : Nat) : raisedN 0 n = 0 := rfl
theorem shadow_0 (n : Nat) : shadowN 0 n = 0 := rfl
theorem raised_c {s n a r : Nat} (e : casc (s + 1) n = (a, s + 1) :: casc s r) : raisedN (s + 1) n = bin a (s + 2) + raisedN s r := by
  unfold raisedN
  rw [e, List.map_cons, List.sum_cons]
theorem shadow_c {s n a r : Nat} (e : casc (s + 1) n = (a, s + 1) :: casc s r) : shadowN (s + 1) n = bin a s + shadowN s r := by
  unfold shadowN
  rw [e, List.map_cons, List.sum_cons]
  rfl
theorem grown_c {s n a r : Nat} (e : casc (s + 1) n = (a, s + 1) :: casc s r) : grownN (s + 1) n = bin (a + 1) (s + 2) + grownN s r := by
  unfold grownN
  rw [e, List.map_cons, List.sum_cons]
/-- the choices of a cascade are together the number (sizes 1 up; what is left at 0 is nothing) -/
theorem casc_sum : ∀ s n : Nat, (s = 0 → n = 0) → ((casc s n).map fun p => bin p.1 p.2).sum = n
  | 0, n, h => by
    rw [h rfl]; rfl
  | s + 1, n, _ => by
    by_cases h : 0 < n
    · obtain ⟨a, r, h1, h2, h3, h4, h5⟩ := gp_step (s := s) h
      rw [h5, List.map_cons, List.sum_cons, casc_sum s r ?_]
      · exact h3.symm
      · intro e
        subst e
        rw [bin_zero] at h4
        omega
    · have e : n = 0 := by omega
      rw [e, casc_zero]; rfl
theorem grown_sum (s n : Nat) (h : s = 0 → n = 0) : grownN s n = raisedN s n + n := by
  have z : ∀ l : List (Nat × Nat), (l.map fun p => bin (p.1 + 1) (p.2 + 1)).sum = (l.map fun p => bin p.1 (p.2 + 1)).sum + (l.map fun p => bin p.1 p.2).sum := fun l => by
    induction l with
    | nil => rfl
    | cons p l ih =>
      rw [List.map_cons, List.map_cons, List.map_cons, List.sum_cons, List.sum_cons, List.sum_cons, ih, bin_succ]
      omega
  have w := z (casc s n)
  rw [casc_sum s n h] at w
  exact w
theorem gp_lt {s n A : Nat} (h : 0 < n) (hn : n < bin A (s + 1)) : gp n (s + 1) < A := by
  obtain ⟨z1, z2, z3⟩ := gp_spec (n := n) (s := s + 1) (by omega) (by omega)
  by_cases q : gp n (s + 1) < A
  · exact q
  · have := bin_mono (s + 1) (m := A) (n := gp n (s + 1)) (by omega)
    omega
theorem gp_mono {s m n : Nat} (h : 0 < m) (hn : m ≤ n) : gp m (s + 1) ≤ gp n (s + 1) := by
  obtain ⟨z1, z2, z3⟩ := gp_spec (n := n) (s := s + 1) (by omega) (by omega)
  have := gp_lt (s := s) (A := gp n (s + 1) + 1) h (by omega)
  omega
/-- strictly below C(A, s), raised strictly below C(A, s + 1) -/
theorem raised_lt : ∀ (s n A : Nat), s + 1 ≤ A → n < bin A s → raisedN s n < bin A (s + 1)
  | 0, n, A, h, _ => by
    rw [raised_0, bin_one]
    omega
  | s + 1, n, A, h, hn => by
    by_cases q : 0 < n
    · obtain ⟨a, r, h1, h2, h3, h4, h5⟩ := gp_step (s := s) q
      have ha := gp_lt q hn
      rw [h1] at ha
      have z := raised_lt s r a h2 h4
      rw [raised_c h5]
      have w := bin_mono (s + 1 + 1) (m := a + 1) (n := A) (by omega)
      rw [bin_succ] at w
      have e : s + 2 = s + 1 + 1 := rfl
      rw [e]
      omega
    · have e : n = 0 := by omega
      rw [e, raised_z]
      exact bin_pos _ _ (by omega)
theorem shadow_le : ∀ (s n A : Nat), n < bin A (s + 1) → shadowN (s + 1) n ≤ bin A s
  | 0, n, A, hn => by
    by_cases q : 0 < n
    · obtain ⟨a, r, h1, h2, h3, h4, h5⟩ := gp_step (s := 0) q
      rw [shadow_c h5, shadow_0, bin_zero, bin_zero]
      omega
    · have e : n = 0 := by omega
      rw [e, shadow_z]
      omega
  | s + 1, n, A, hn => by
    by_cases q : 0 < n
    · obtain ⟨a, r, h1, h2, h3, h4, h5⟩ := gp_step (s := s + 1) q
      have ha := gp_lt q hn
      rw [h1] at ha
      have z := shadow_le s r a h4
      rw [shadow_c h5]
      have w := bin_mono (s + 1) (m := a + 1) (n := A) (by omega)
      rw [bin_succ] at w
      omega
    · have e : n = 0 := by omega
      rw [e, shadow_z]
      omega
theorem raised_mono : ∀ (s m n : Nat), m ≤ n → raisedN s m ≤ raisedN s n
  | 0, m, n, _ => by rw [raised_0, raised_0]; omega
  | s + 1, m, n, h => by
    by_cases q : 0 < m
    · obtain ⟨a, r, h1, h2, h3, h4, h5⟩ := gp_step (s := s) q
      obtain ⟨b, t, k1, k2, k3, k4, k5⟩ := gp_step (s := s) (n := n) (by omega)
      have hab := gp_mono (s := s) q h
      rw [h1, k1] at hab
      rw [raised_c h5, raised_c k5]
      by_cases e : a = b
      · subst e
        have := raised_mono s r t (by omega)
        omega
      · have z := raised_lt s r a h2 h4
        have w := bin_mono (s + 1 + 1) (m := a + 1) (n := b) (by omega)
        rw [bin_succ] at w
        have e : s + 2 = s + 1 + 1 := rfl
        rw [e]
        omega
    · have e : m = 0 := by omega
      rw [e, raised_z]
      omega
theorem shadow_mono : ∀ (s m n : Nat), m ≤ n → shadowN s m ≤ shadowN s n
  | 0, m, n, _ => by rw [shadow_0, shadow_0]; omega
  | s + 1, m, n, h => by
    by_cases q : 0 < m
    · obtain ⟨a, r, h1, h2, h3, h4, h5⟩ := gp_step (s := s) q
      obtain ⟨b, t, k1, k2, k3, k4, k5⟩ := gp_step (s := s) (n := n) (by omega)
      have hab := gp_mono (s := s) q h
      rw [h1, k1] at hab
      rw [shadow_c h5, shadow_c k5]
      by_cases e : a = b
      · subst e
        have := shadow_mono s r t (by omega)
        omega
      · cases s with
        | zero =>
          rw [bin_zero, bin_zero, shadow_0, shadow_0]
          omega
        | succ s =>
          have z := shadow_le s r a h4
          have w := bin_mono (s + 1) (m := a + 1) (n := b) (by omega)
          rw [bin_succ] at w
          omega
    · have e : m = 0 := by omega
      rw [e, shadow_z]
      omega
theorem grown_mono (s m n : Nat) (hs : 1 ≤ s) (h : m ≤ n) : grownN s m ≤ grownN s n := by
  rw [grown_sum s m (by omega), grown_sum s n (by omega)]
  have := raised_mono s m n h
  omega
/-- one is at most raised of the other exactly if its shadow is at most the other -/
theorem adj : ∀ (s l m : Nat), (s = 0 → m = 0) → (l ≤ raisedN s m ↔ shadowN (s + 1) l ≤ m)
  | s, l, m, h0 => by
    by_cases ql : 0 < l
    · obtain ⟨b, t, k1, k2, k3, k4, k5⟩ := gp_step (s := s) ql
      rw [shadow_c k5]
      have hb := bin_pos b s (by omega)
      have hb2 := bin_pos b (s + 1) (by omega)
      by_cases qm : 0 < m
      · obtain ⟨s, rfl⟩ : ∃ s', s = s' + 1 := ⟨s - 1, by omega⟩
        obtain ⟨a, r, h1, h2, h3, h4, h5⟩ := gp_step (s := s) qm
        rw [raised_c h5]
        by_cases e : a = b
        · subst e
          have ih := adj s t r (fun e => by subst e; rw [bin_zero] at h4; omega)
          have e1 : s + 2 = s + 1 + 1 := rfl
          rw [e1, k3, h3]
          constructor
          · intro h
            have := ih.mp (by omega)
            omega
          · intro h
            have := ih.mpr (by omega)
            omega
        · by_cases lt : b < a
          · have w1 := bin_mono (s + 1 + 1) (m := b + 1) (n := a) (by omega)
            rw [bin_succ] at w1
            have w2 := bin_mono (s + 1) (m := b + 1) (n := a) (by omega)
            rw [bin_succ] at w2
            have w3 := shadow_le s t b k4
            have e1 : s + 2 = s + 1 + 1 := rfl
            rw [e1]
            constructor
            · intro; omega
            · intro; omega
          · have w1 := bin_mono (s + 1 + 1) (m := a + 1) (n := b) (by omega)
            rw [bin_succ] at w1
            have w2 := bin_mono (s + 1) (m := a + 1) (n := b) (by omega)
            rw [bin_succ] at w2
            have w3 := raised_lt s r a h2 h4
            have e1 : s + 2 = s + 1 + 1 := rfl
            rw [e1]
            constructor
            · intro; omega
            · intro; omega
      · have e : m = 0 := by omega
        subst e
        rw [raised_z]
        constructor
        · intro; omega
        · intro; omega
    · have e : l = 0 := by omega
      subst e
      rw [shadow_z]
      constructor
      · intro; omega
      · intro; omega
/-! ### the pairs -/
/-- each pair's first is above the next one's, its size one more -/
def fallsP : List (Nat × Nat) → Prop
  | p :: q :: r => q.1 < p.1 ∧ p.2 = q.2 + 1 ∧ fallsP (q :: r)
  | _ => True
theorem casc_falls : ∀ s n : Nat, fallsP (casc s n)
  | 0, _ => trivial
  | s + 1, n => by
    by_cases q : 0 < n
    · obtain ⟨a, r, h1, h2, h3, h4, h5⟩ := gp_step (s := s) q
      rw [h5]
      have ih := casc_falls s r
      cases s with
      | zero => exact trivial
      | succ s =>
        by_cases qr : 0 < r
        · obtain ⟨b, t, k1, k2, k3, k4, k5⟩ := gp_step (s := s) qr
          rw [k5] at ih ⊢
          have := gp_lt qr h4
          exact ⟨by omega, rfl, ih⟩
        · have e : r = 0 := by omega
          rw [e, casc_zero]
          exact trivial
    · have e : n = 0 := by omega
      rw [e, casc_zero]
      exact trivial
/-! ### sizes -/
theorem raised_size : ∀ (s n : Nat), (s = 0 → n = 0) → raisedN s n ≤ n * (n + s)
  | 0, n, _ => by rw [raised_0]; omega
  | s + 1, n, _ => by
    by_cases q : 0 < n
    · obtain ⟨a, r, h1, h2, h3, h4, h5⟩ := gp_step (s := s) q
      rw [raised_c h5]
      have ih := raised_size s r (fun e => by subst e; rw [bin_zero] at h4; omega)
      have hb := gp_bound (n := n) (s := s + 1) (a := a) (by omega) (by omega)
      have st := bin_step a (s + 1)
      have s1 : bin a (s + 1 + 1) ≤ bin a (s + 1 + 1) * (s + 1 + 1) := Nat.le_mul_of_pos_right _ (by omega)
      have s2 : bin a (s + 1) * (a - (s + 1)) ≤ bin a (s + 1) * (n + (s + 1)) := Nat.mul_le_mul_left _ (by omega)
      have s3 : r * (r + s) ≤ r * (n + (s + 1)) := Nat.mul_le_mul_left _ (by omega)
      have s4 : n * (n + (s + 1)) = bin a (s + 1) * (n + (s + 1)) + r * (n + (s + 1)) := by
        rw [← Nat.add_mul, ← h3]
      have e1 : s + 2 = s + 1 + 1 := rfl
      rw [e1]
      omega
    · have e : n = 0 := by omega
      rw [e, raised_z]
      omega
theorem shadow_size : ∀ (s n : Nat), shadowN s n ≤ n * (s + 1)
  | 0, n => by rw [shadow_0]; omega
  | s + 1, n => by
    by_cases q : 0 < n
    · obtain ⟨a, r, h1, h2, h3, h4, h5⟩ := gp_step (s := s) q
      rw [shadow_c h5]
      have ih := shadow_size s r
      have st := bin_step a s
      have s1 : bin a s ≤ bin a s * (a - s) := Nat.le_mul_of_pos_right _ (by omega)
      have s3 : r * (s + 1) ≤ r * (s + 1 + 1) := Nat.mul_le_mul_left _ (by omega)
      have s2 : bin a (s + 1) * (s + 1) ≤ bin a (s + 1) * (s + 1 + 1) := Nat.mul_le_mul_left _ (by omega)
      have s4 : n * (s + 1 + 1) = bin a (s + 1) * (s + 1 + 1) + r * (s + 1 + 1) := by
        rw [← Nat.add_mul, ← h3]
      omega
    · have e : n = 0 := by omega
      rw [e, shadow_z]
      omega
end DL

set_option Elab.async false
set_option linter.all false
set_option maxRecDepth 100000
set_option maxHeartbeats 4000000
namespace K41
open PySem PySem.Spec PyProof.Rows L2 DL
theorem kb1 : kitB "NoneType" "int" = some false := by decide +kernel
theorem kb2 : kitB "bool" "int" = some true := by decide +kernel
theorem kb3 : kitB "int" "int" = some true := by decide +kernel
theorem kb4 : kitB "str" "int" = some false := by decide +kernel
theorem kb5 : kitB "tuple" "int" = some false := by decide +kernel
theorem kb6 : kitB "list" "int" = some false := by decide +kernel
theorem kb7 : kitB "bool" "bool" = some true := by decide +kernel
theorem kb8 : kitB "int" "bool" = some false := by decide +kernel
theorem i_is_number : ∀ ds Q Z, F_is_number ds Q Z → fnW 1 1 m_is_number ds Q Z := by
  intro ds Q Z h
  unfold F_is_number at h
  split at h
  · rename_i d
    obtain ⟨h1, h2⟩ := h
    cases d <;> first
      | exact absurd rfl h1
      | (simpa [m_is_number, kb1, kb2, kb3, kb4, kb5, kb6, kb7, kb8] using h2)
  · exact h.elim
theorem i_is_between : ∀ ds Q Z, F_is_between ds Q Z → fnW 3 3 m_is_between ds Q Z := by
  intro ds Q Z h
  unfold F_is_between at h
  split at h
  · rename_i d lo hi
    obtain ⟨h1, h2⟩ := h
    cases d <;> first
      | exact absurd rfl h1
      | (simp [m_is_between, F_is_number, good] at h2 ⊢; exact h2)
      | (rename_i i; simp [m_is_between, F_is_number, good] at h2 ⊢; by_cases h3 : lo ≤ i <;> simp_all <;> (intro h4; omega))
  · exact h.elim
theorem i_need_between : ∀ ds Q Z, F_need_between ds Q Z → fnW 4 4 m_need_between ds Q Z := by
  intro ds Q Z h
  unfold F_need_between at h
  split at h
  · rename_i d lo hi part
    obtain ⟨h1, h2⟩ := h
    refine ⟨rfl, ?_⟩
    simp [m_need_between, F_is_between]
    refine ⟨h1, ?_⟩
    cases hg : good d lo hi with
    | true =>
      rw [hg] at h2
      simpa using h2
    | false =>
      rw [hg] at h2
      simpa using h2
  · exact h.elim
theorem i_need_both : ∀ ds Q Z, F_need_both ds Q Z → fnW 2 2 m_need_both ds Q Z := by
  intro ds Q Z h
  unfold F_need_both at h
  split at h
  · rename_i a b
    unfold need at h
    obtain ⟨⟨h1, h2⟩, h3⟩ := h
    refine ⟨rfl, ?_⟩
    simp [m_need_both, F_need_between]
    refine ⟨h1, ?_⟩
    cases hg : good a 0 v_MOST_NUMBER with
    | false =>
      rw [hg] at h3
      simpa using h3
    | true =>
      rw [hg] at h3
      have h4 := h2 hg
      refine ⟨h4, ?_⟩
      cases hk : good b 1 v_MOST_SIZE with
      | false =>
        rw [hk] at h3
        simpa using h3
      | true =>
        rw [hk] at h3
        simpa using h3
  · exact h.elim

theorem forS_ind {T : D → Ev → Option Ev} {kl : List Nat} {m : SM} {k : KS} (P : List D → Ev → Prop) (hn : ∀ e, P [] e → k.nx e)
    (hc : ∀ d ds e (F : Ev → Prop), P (d :: ds) e → (∀ e2, P ds e2 → F e2) → match T d e with
      | none => False
      | some e1 => m e1 { nx := fun e2 => F (kilE kl e2), rt := k.rt, bk := fun e2 => k.nx (kilE kl e2), ct := fun e2 => F (kilE kl e2), er := k.er }) : ∀ ds e, P ds e → forS T kl m ds e k
  | [], e, h => hn e h
  | d :: ds, e, h => by
    unfold forS
    have z := hc d ds e (fun e2 => forS T kl m ds e2 k) h fun e2 h2 => forS_ind P hn hc ds e2 h2
    cases q : T d e with
    | none =>
      rw [q] at z
      exact z.elim
    | some e1 =>
      rw [q] at z
      exact z
theorem rgD_len (lo : Int) (n : Nat) : (rgD lo n).length = n := by
  unfold rgD
  simp
theorem forS_rg {T : D → Ev → Option Ev} {kl : List Nat} {m : SM} {k : KS} {lo : Int} {n : Nat} {env : Ev} (I : Nat → Ev → Prop) (h0 : I 0 env) (hn : ∀ e, I n e → k.nx e)
    (hc : ∀ j e (F : Ev → Prop), j < n → I j e → (∀ e2, I (j + 1) e2 → F e2) → match T (.int (lo + (j : Int))) e with
      | none => False
      | some e1 => m e1 { nx := fun e2 => F (kilE kl e2), rt := k.rt, bk := fun e2 => k.nx (kilE kl e2), ct := fun e2 => F (kilE kl e2), er := k.er }) : forS T kl m (rgD lo n) env k := by
  refine forS_ind (fun ds e => ∃ j, j ≤ n ∧ ds = (rgD lo n).drop j ∧ I j e) (fun e ⟨j, h1, h2, h3⟩ => ?_) (fun d ds e F ⟨j, h1, h2, h3⟩ hF => ?_) _ env ⟨0, by omega, by simp, h0⟩
  · have z := congrArg List.length h2
    rw [List.length_drop, rgD_len] at z
    have e1 : j = n := by
      simp at z
      omega
    rw [e1] at h3
    exact hn e h3
  · have z := congrArg List.length h2
    rw [List.length_drop, rgD_len, List.length_cons] at z
    have hj : j < (rgD lo n).length := by rw [rgD_len]; omega
    rw [List.drop_eq_getElem_cons hj] at h2
    obtain ⟨e1, e2⟩ := List.cons.inj h2
    have e3 := rgD_get (lo := lo) (n := n) (i := j) (d := (rgD lo n)[j]) (List.getElem?_eq_getElem hj)
    rw [e1, e3.2]
    exact hc j e F (by omega) h3 fun e4 h4 => hF e4 ⟨j + 1, by omega, e2, h4⟩
theorem ccmb {n k : Int} (h1 : n < v_BIG) (h2 : k ≤ 60) (h3 : 0 ≤ k) (h4 : k ≤ n) : CCmb n k := by
  refine ⟨h3, h4, by omega, ?_⟩
  rw [comb_bin h3 h4]
  unfold v_BIG at h1
  have z := bin_log (n := n.toNat) (k := k.toNat) (by omega) (by omega)
  have z2 : (bin n.toNat k.toNat : Int).natAbs = bin n.toNat k.toNat := by omega
  rw [z2]
  by_cases q : bin n.toNat k.toNat = 0
  · rw [q]
    decide
  · have := (Nat.log2_lt q).mpr z
    omega
theorem i_choices_many : ∀ ds Q Z, F_choices_many ds Q Z → fnW 2 2 m_choices_many ds Q Z := by
  intro ds Q Z h
  unfold F_choices_many at h
  split at h
  · rename_i n k
    obtain ⟨⟨h1, h2⟩, h3⟩ := h
    simp [m_choices_many]
    by_cases a : k ≤ n
    · by_cases b : 0 ≤ k
      · have e : Ch n k = PySem.W.mcComb n k := by rw [Ch_at b a, comb_bin b a]
        rw [e] at h3
        simp [a, b]
        exact ⟨ccmb h1 h2 b a, h3⟩
      · have e : Ch n k = 0 := by
          unfold Ch
          rw [if_pos (by omega)]
        rw [e] at h3
        simp [a, b]
        exact h3
    · have e : Ch n k = 0 := by
        unfold Ch
        rw [if_pos (by omega)]
      rw [e] at h3
      simp [a]
      exact h3
  · exact h.elim
theorem i_law_choose : ∀ ds Q Z, F_law_choose ds Q Z → fnW 4 2 m_law_choose ds Q Z := by
  intro ds Q Z h
  unfold F_law_choose F_choices_many at h
  split at h
  · rename_i n k
    obtain ⟨⟨h1, h2⟩, h3⟩ := h
    unfold v_BIG at h1
    simp [m_law_choose]
    split
    · rename_i a
      have e : Ch n k = 0 := by
        unfold Ch
        rw [if_pos (by omega)]
      rw [← e]
      exact h3
    · rename_i a
      split
      · rename_i b
        have e : Ch n k = 0 := by
          unfold Ch
          rw [if_pos (by omega)]
        rw [← e]
        exact h3
      · rename_i b
        refine ⟨by omega, ?_⟩
        obtain ⟨N, rfl⟩ : ∃ N : Nat, n = (N : Int) := ⟨n.toNat, by omega⟩
        obtain ⟨J, rfl⟩ : ∃ J : Nat, k = (J : Int) := ⟨k.toNat, by omega⟩
        rw [Ch_nat] at h3
        refine forS_rg (fun j e => e = [.sh (.int N), .sh (.int J), .sh (.int (bin N j)), .un]) (by rw [bin_zero]; rfl) (fun e he => ?_) fun j e F hj he hF => ?_
        · subst he
          simpa using h3
        · subst he
          have hj2 : j < J := by omega
          have q1 : ((bin N j : Nat) : Int) * ((N : Int) - (j : Int)) / ((j : Int) + 1) = ((bin N (j + 1) : Nat) : Int) := by
            have z := bin_step N j
            have e1 : (N : Int) - (j : Int) = ((N - j : Nat) : Int) := by omega
            have e2 : (j : Int) + 1 = ((j + 1 : Nat) : Int) := by omega
            rw [e1, e2, ← Int.natCast_mul, ← z, Int.natCast_mul]
            exact Int.mul_ediv_cancel _ (by omega)
          have q2 : CMulW ((bin N j : Nat) : Int) ((N : Int) - (j : Int)) := by
            have z := bin_log (n := N) (k := j) (by omega) (by omega)
            exact wide_mul (a := 13000) (b := 201) (by omega) (by omega) (by decide) (by decide) (by decide)
          have q3 : CDivW (((bin N j : Nat) : Int) * ((N : Int) - (j : Int))) ((j : Int) + 1) := by
            refine ⟨by omega, ?_⟩
            have z : ((j : Int) + 1).natAbs = j + 1 := by omega
            rw [z]
            have w := (Nat.log2_lt (n := j + 1) (k := 7) (by omega)).mpr (by omega)
            omega
          have q4 := hF [.sh (.int N), .sh (.int J), .sh (.int (bin N (j + 1))), .un] rfl
          simp [q1, q2, q3]
          simpa using q4
  · exact h.elim
theorem i_greatest_points : ∀ ds Q Z, F_greatest_points ds Q Z → fnW 5 2 m_greatest_points ds Q Z := by
  intro ds Q Z h
  unfold F_greatest_points at h
  split at h
  · rename_i n k
    obtain ⟨⟨h1, h2, h3, h4⟩, h5⟩ := h
    obtain ⟨N, rfl⟩ : ∃ N : Nat, n = (N : Int) := ⟨n.toNat, by omega⟩
    obtain ⟨J, rfl⟩ : ∃ J : Nat, k = (J : Int) := ⟨k.toNat, by omega⟩
    unfold v_MOST_NUMBER v_MOST_SIZE at *
    have e5 : gp (N : Int).toNat (J : Int).toNat = gp N J := rfl
    rw [e5] at h5
    simp [m_greatest_points]
    refine ⟨fun m e => ∃ lo hi : Nat, e = [.sh (.int N), .sh (.int J), .sh (.int lo), .sh (.int hi), .un] ∧ J ≤ lo ∧ lo < hi ∧ hi ≤ 2 * lo + 1 ∧ bin lo J ≤ N ∧ m = N + J + 2 - lo, ?_, ?_⟩
    · exact ⟨_, J, J + 1, by simp, by omega, by omega, by omega, by rw [bin_self]; omega, rfl⟩
    · rintro m e ⟨lo, hi, rfl, q1, q2, q3, q4, q5⟩
      have b := gp_bound (n := N) (s := J) (a := lo) (by omega) q4
      simp [F_choices_many]
      refine ⟨by unfold v_BIG; omega, ?_⟩
      rw [Ch_nat]
      split
      · rename_i w
        refine ⟨.inr (.inl (by omega)), N + J + 2 - hi, by omega, hi, 2 * hi, ⟨rfl, by omega⟩, by omega, by omega, by omega, by omega, rfl⟩
      · rename_i w
        refine ⟨fun m e => ∃ lo hi : Nat, (∃ s, e = [.sh (.int N), .sh (.int J), .sh (.int lo), .sh (.int hi), s]) ∧ J ≤ lo ∧ lo < hi ∧ bin lo J ≤ N ∧ N < bin hi J ∧ hi ≤ 2 * (N + J) + 2 ∧ m = hi - lo, ?_, ?_⟩
        · exact ⟨_, lo, hi, ⟨_, rfl⟩, q1, q2, q4, by omega, by omega, rfl⟩
        · rintro m e ⟨lo, hi, ⟨s, rfl⟩, q1, q2, q4, q5, q6, q7⟩
          simp
          split
          · rename_i z
            have e1 : ((lo : Int) + hi) / 2 = (((lo + hi) / 2 : Nat) : Int) := by omega
            refine ⟨⟨by omega, by decide⟩, ?_⟩
            simp [F_choices_many]
            rw [e1]
            refine ⟨by unfold v_BIG; omega, ?_⟩
            rw [Ch_nat]
            split
            · rename_i y
              exact ⟨hi - (lo + hi) / 2, by omega, (lo + hi) / 2, hi, by simp, by omega, by omega, by omega, q5, q6, rfl⟩
            · rename_i y
              exact ⟨(lo + hi) / 2 - lo, by omega, lo, (lo + hi) / 2, by simp, q1, by omega, q4, by omega, by omega, rfl⟩
          · rename_i z
            have e2 : hi = lo + 1 := by omega
            rw [e2] at q5
            rw [gp_uniq (by omega) (by omega) q4 q5]
            exact h5
  · exact h.elim
theorem cascD_zero (s : Nat) : cascD s 0 = [] := by
  unfold cascD casc
  cases s <;> rfl
theorem cascD_step {s n : Nat} (h : 0 < n) : cascD (s + 1) n = .tup [.int (gp n (s + 1) : Nat), .int ((s + 1 : Nat) : Int)] :: cascD s (n - bin (gp n (s + 1)) (s + 1)) := by
  show List.map _ (casc (s + 1) n) = _
  unfold casc
  rw [if_neg (by omega)]
  rfl
/-- what is left behind one step -/
theorem left_small {s n : Nat} (h : 0 < n) : n - bin (gp n (s + 1)) (s + 1) < bin (gp n (s + 1)) s := by
  obtain ⟨z1, z2, z3⟩ := gp_spec (n := n) (s := s + 1) (by omega) (by omega)
  rw [bin_succ] at z3
  omega
theorem F_gp_nat {L S : Nat} {P Z : D → Prop} (h1 : 1 ≤ L) (h2 : (L : Int) ≤ v_MOST_NUMBER) (h3 : 1 ≤ S) (h4 : (S : Int) ≤ v_MOST_SIZE) (h : P (.int (gp L S : Nat))) : F_greatest_points [.int L, .int S] P Z :=
  ⟨⟨by omega, h2, by omega, h4⟩, h⟩
theorem F_ch_nat {L S : Nat} {P Z : D → Prop} (h2 : (L : Int) < v_BIG) (h4 : S ≤ 60) (h : P (.int (bin L S : Nat))) : F_choices_many [.int L, .int S] P Z :=
  ⟨⟨h2, by omega⟩, by rw [Ch_nat]; exact h⟩
theorem i_cascade_told : ∀ ds Q Z, F_cascade_told ds Q Z → fnW 6 2 m_cascade_told ds Q Z := by
  intro ds Q Z h
  unfold F_cascade_told at h
  split at h
  · rename_i n k
    obtain ⟨⟨h1, h2, h3, h4⟩, h5⟩ := h
    obtain ⟨N, rfl⟩ : ∃ N : Nat, n = (N : Int) := ⟨n.toNat, by omega⟩
    obtain ⟨J, rfl⟩ : ∃ J : Nat, k = (J : Int) := ⟨k.toNat, by omega⟩
    unfold v_MOST_NUMBER v_MOST_SIZE at *
    have e5 : cascD (J : Int).toNat (N : Int).toNat = cascD J N := rfl
    rw [e5] at h5
    simp [m_cascade_told]
    refine ⟨fun m e => ∃ (L S : Nat) (fs : List D) (s : Slot), e = [.sh (.int N), .sh (.int J), .own fs, .sh (.int L), .sh (.int S), s] ∧ fs ++ cascD S L = cascD J N ∧ L ≤ N ∧ fs.length + S ≤ 40 ∧ (S = 0 → L = 0) ∧ m = S, ?_, ?_⟩
    · exact ⟨J, N, J, [], .un, by simp, by simp, by omega, by simp; omega, by omega, rfl⟩
    · rintro m e ⟨L, S, fs, s, rfl, q1, q2, q3, q4, q5⟩
      simp
      split
      · rename_i w
        obtain ⟨S, rfl⟩ : ∃ S', S = S' + 1 := ⟨S - 1, by omega⟩
        obtain ⟨z1, z2, z3⟩ := gp_spec (n := L) (s := S + 1) (by omega) (by omega)
        have zb := gp_bound (s := S + 1) (by omega) z2
        have zl := left_small (s := S) (n := L) (by omega)
        have zd := cascD_step (s := S) (n := L) (by omega)
        refine F_gp_nat (by omega) (by unfold v_MOST_NUMBER; omega) (by omega) (by unfold v_MOST_SIZE; omega) ?_
        simp
        refine ⟨by omega, ?_⟩
        have e1 : (S : Int) + 1 = ((S + 1 : Nat) : Int) := by omega
        rw [e1]
        refine F_ch_nat (by unfold v_BIG; omega) (by omega) ?_
        simp
        refine ⟨S, by omega, L - bin (gp L (S + 1)) (S + 1), S, fs ++ [D.tup [.int (gp L (S + 1) : Nat), .int ((S + 1 : Nat) : Int)]], ⟨by simp, by omega, rfl⟩, ?_, by omega, ?_, ?_, rfl⟩
        · rw [List.append_assoc, List.singleton_append, ← zd]
          exact q1
        · rw [List.length_append]
          simp
          omega
        · intro e0
          subst e0
          rw [bin_zero] at zl
          omega
      · rename_i w
        have e0 : L = 0 := by omega
        rw [e0, cascD_zero, List.append_nil] at q1
        rw [q1]
        exact h5
  · exact h.elim
end K41

set_option Elab.async false
set_option linter.all false
set_option maxRecDepth 100000
set_option maxHeartbeats 4000000
namespace K41
open PySem PySem.Spec PyProof.Rows L2 DL
theorem good_num {a : D} (h : good a 0 v_MOST_NUMBER = true) : ∃ n : Int, a = .int n ∧ 0 ≤ n ∧ n ≤ v_MOST_NUMBER := by
  cases a <;> first
    | cases h
    | (rename_i i; unfold good at h; simp at h; exact ⟨i, rfl, h.1, h.2⟩)
theorem good_size {a : D} (h : good a 1 v_MOST_SIZE = true) : ∃ n : Int, a = .int n ∧ 1 ≤ n ∧ n ≤ v_MOST_SIZE := by
  cases a <;> first
    | cases h
    | (rename_i i; unfold good at h; simp at h; exact ⟨i, rfl, h.1, h.2⟩)
/-- judged, then done -/
theorem need_run {a b : D} {p q : W D} {P Z : D → Prop} (h : need a b p P Z) (i : ∀ n k : Int, a = .int n → b = .int k → 0 ≤ n → n ≤ v_MOST_NUMBER → 1 ≤ k → k ≤ v_MOST_SIZE → p P Z → q P Z) : need a b q P Z := by
  unfold need at h ⊢
  refine ⟨h.1, ?_⟩
  have h2 := h.2
  cases hg : good a 0 v_MOST_NUMBER with
  | false =>
    rw [hg] at h2
    exact h2
  | true =>
    rw [hg] at h2
    cases hk : good b 1 v_MOST_SIZE with
    | false =>
      rw [hk] at h2
      exact h2
    | true =>
      rw [hk] at h2
      obtain ⟨n, rfl, z1, z2⟩ := good_num hg
      obtain ⟨k, rfl, z3, z4⟩ := good_size hk
      exact i n k rfl rfl z1 z2 z3 z4 h2
theorem need_imp {a b : D} {p q : W D} {P Q Z : D → Prop} (h : need a b p P Z) (i : ∀ n k : Int, a = .int n → b = .int k → 0 ≤ n → n ≤ v_MOST_NUMBER → 1 ≤ k → k ≤ v_MOST_SIZE → p P Z → q Q Z) : need a b q Q Z := by
  unfold need at h ⊢
  refine ⟨h.1, ?_⟩
  have h2 := h.2
  cases hg : good a 0 v_MOST_NUMBER with
  | false =>
    rw [hg] at h2
    exact h2
  | true =>
    rw [hg] at h2
    cases hk : good b 1 v_MOST_SIZE with
    | false =>
      rw [hk] at h2
      exact h2
    | true =>
      rw [hk] at h2
      obtain ⟨n, rfl, z1, z2⟩ := good_num hg
      obtain ⟨k, rfl, z3, z4⟩ := good_size hk
      exact i n k rfl rfl z1 z2 z3 z4 h2
theorem i_cascade : ∀ ds Q Z, F_cascade ds Q Z → fnW 2 2 m_cascade ds Q Z := by
  intro ds Q Z h
  unfold F_cascade at h
  split at h
  · rename_i a b
    refine ⟨rfl, ?_⟩
    simp [m_cascade]
    refine need_imp h fun n k ea eb h1 h2 h3 h4 h5 => ?_
    subst ea eb
    exact ⟨⟨h1, h2, h3, h4⟩, h5⟩
  · exact h.elim
theorem i_shadow_many : ∀ ds Q Z, F_shadow_many ds Q Z → fnW 2 2 m_shadow_many ds Q Z := by
  intro ds Q Z h
  unfold F_shadow_many at h
  split at h
  · rename_i a b
    refine ⟨rfl, ?_⟩
    simp [m_shadow_many]
    refine need_imp h fun n k ea eb h1 h2 h3 h4 h5 => ?_
    subst ea eb
    exact ⟨⟨h1, h2, h3, h4⟩, h5⟩
  · exact h.elim
theorem i_raised_many : ∀ ds Q Z, F_raised_many ds Q Z → fnW 2 2 m_raised_many ds Q Z := by
  intro ds Q Z h
  unfold F_raised_many at h
  split at h
  · rename_i a b
    refine ⟨rfl, ?_⟩
    simp [m_raised_many]
    refine need_imp h fun n k ea eb h1 h2 h3 h4 h5 => ?_
    subst ea eb
    exact ⟨⟨h1, h2, h3, h4⟩, h5⟩
  · exact h.elim
theorem i_grown : ∀ ds Q Z, F_grown ds Q Z → fnW 2 2 m_grown ds Q Z := by
  intro ds Q Z h
  unfold F_grown at h
  split at h
  · rename_i a b
    refine ⟨rfl, ?_⟩
    simp [m_grown]
    refine need_imp h fun n k ea eb h1 h2 h3 h4 h5 => ?_
    subst ea eb
    exact ⟨⟨h1, h2, h3, h4⟩, h5⟩
  · exact h.elim
/-! ### comprehensions over a cascade -/
/-- each element of a list, mapped -/
theorem lcE_map {T : D → Ev → Option Ev} {me : EM} {env : Ev} {Z : D → Prop} (f : D → D) : ∀ (ds : List D) (P : List D → Prop), (∀ d ∈ ds, ∀ Q : D → Prop, Q (f d) → match T d env with
      | none => False
      | some e1 => me e1 Q (fun _ => False)) → P (ds.map f) → lcE T tTrue me env ds P Z
  | [], P, _, h => by
    simpa [lcE] using h
  | d :: ds, P, hm, h => by
    unfold lcE
    have z := hm d List.mem_cons_self (fun y => lcE T tTrue me env ds (fun ys => P (y :: ys)) Z) (lcE_map f ds (fun ys => P (f d :: ys)) (fun d' h' => hm d' (List.mem_cons_of_mem _ h')) (by simpa using h))
    cases q : T d env with
    | none =>
      rw [q] at z
      exact z.elim
    | some e1 =>
      rw [q] at z
      simpa using z
theorem ints_map : ∀ l : List Nat, intsOf (l.map fun n : Nat => D.int (n : Int)) = some (l.map fun n : Nat => (n : Int))
  | [] => rfl
  | n :: l => by
    rw [List.map_cons, List.map_cons]
    unfold intsOf
    rw [ints_map l]
    rfl
theorem sum_cast : ∀ l : List Nat, (l.map fun n : Nat => (n : Int)).sum = (l.sum : Int)
  | [] => rfl
  | n :: l => by
    rw [List.map_cons, List.sum_cons, List.sum_cons, sum_cast l]
    omega
/-- what the pairs of a cascade are -/
theorem casc_mem : ∀ (s n : Nat), ∀ p ∈ casc s n, 1 ≤ p.2 ∧ p.2 ≤ s ∧ p.2 ≤ p.1 ∧ p.1 ≤ n + p.2 ∧ bin p.1 p.2 ≤ n
  | 0, n, p, h => by
    unfold casc at h
    cases h
  | s + 1, n, p, h => by
    unfold casc at h
    by_cases q : n = 0
    · rw [if_pos q] at h
      cases h
    · rw [if_neg q] at h
      obtain ⟨z1, z2, z3⟩ := gp_spec (n := n) (s := s + 1) (by omega) (by omega)
      rcases List.mem_cons.mp h with e | h
      · rw [e]
        exact ⟨by show 1 ≤ s + 1; omega, Nat.le_refl _, z1, gp_bound (by omega) z2, z2⟩
      · obtain ⟨w1, w2, w3, w4, w5⟩ := casc_mem s _ p h
        exact ⟨w1, by omega, w3, by omega, by omega⟩
theorem cascD_all {s n : Nat} {d : D} (h : d ∈ cascD s n) : ∃ p ∈ casc s n, d = .tup [.int (p.1 : Nat), .int (p.2 : Nat)] := by
  unfold cascD at h
  obtain ⟨p, hp, e⟩ := List.mem_map.mp h
  exact ⟨p, hp, e.symm⟩
def fstD : D → Nat
  | .tup [.int a, _] => a.toNat
  | _ => 0
def sndD : D → Nat
  | .tup [_, .int b] => b.toNat
  | _ => 0
theorem cascD_map (s n : Nat) (f : Nat → Nat → Nat) : (cascD s n).map (fun d => D.int (f (fstD d) (sndD d) : Nat)) = (((casc s n).map fun p => f p.1 p.2).map fun m : Nat => D.int (m : Int)) := by
  unfold cascD
  rw [List.map_map, List.map_map]
  rfl
theorem casc_len : ∀ s n : Nat, (casc s n).length ≤ s
  | 0, n => by
    unfold casc
    exact Nat.le_refl _
  | s + 1, n => by
    unfold casc
    by_cases q : n = 0
    · rw [if_pos q]
      exact Nat.zero_le _
    · rw [if_neg q]
      have z := casc_len s (n - bin (gp n (s + 1)) (s + 1))
      simp
      exact z
/-- a sum over a cascade, as the defs make it -/
theorem sum_run {me : EM} {env : Ev} {s n : Nat} {Q Z : D → Prop} (f : Nat → Nat → Nat) (hs : s ≤ 40) (hq : Q (.int (((casc s n).map fun p => f p.1 p.2).sum : Nat)))
    (hm : ∀ (a b : Nat) (R : D → Prop), 1 ≤ b → b ≤ 40 → b ≤ a → a ≤ n + b → bin a b ≤ n → R (.int (f a b : Nat)) → me ((env.set 2 (.sh (.int (a : Nat)))).set 3 (.sh (.int (b : Nat)))) R (fun _ => False)) :
    (cascD s n).length < 16777216 ∧ lcE (tg2 2 3) tTrue me env (cascD s n) (fun ys => match intsOf ys with
      | some is => Q (.int is.sum)
      | none => False) Z := by
  refine ⟨?_, lcE_map (fun d => D.int (f (fstD d) (sndD d) : Nat)) _ _ (fun d hd R hR => ?_) ?_⟩
  · have z := casc_len s n
    unfold cascD
    rw [List.length_map]
    omega
  · obtain ⟨p, hp, rfl⟩ := cascD_all hd
    obtain ⟨w1, w2, w3, w4, w5⟩ := casc_mem s n p hp
    exact hm p.1 p.2 R w1 (by omega) w3 w4 w5 hR
  · rw [cascD_map, ints_map]
    show Q (.int (List.sum _))
    rw [sum_cast]
    exact hq
theorem i_shadow_told : ∀ ds Q Z, F_shadow_told ds Q Z → fnW 4 2 m_shadow_told ds Q Z := by
  intro ds Q Z h
  unfold F_shadow_told at h
  split at h
  · rename_i n k
    obtain ⟨⟨h1, h2, h3, h4⟩, h5⟩ := h
    refine ⟨rfl, ?_⟩
    simp [m_shadow_told]
    refine ⟨⟨h1, h2, h3, h4⟩, ?_⟩
    unfold v_MOST_NUMBER v_MOST_SIZE at *
    refine sum_run (fun a b => bin a (b - 1)) (by omega) h5 fun a b R b1 b2 b3 b4 b5 hR => ?_
    simp
    have e1 : (b : Int) - 1 = ((b - 1 : Nat) : Int) := by omega
    rw [e1]
    exact F_ch_nat (by unfold v_BIG; omega) (by omega) hR
  · exact h.elim
theorem i_raised_told : ∀ ds Q Z, F_raised_told ds Q Z → fnW 4 2 m_raised_told ds Q Z := by
  intro ds Q Z h
  unfold F_raised_told at h
  split at h
  · rename_i n k
    obtain ⟨⟨h1, h2, h3, h4⟩, h5⟩ := h
    refine ⟨rfl, ?_⟩
    simp [m_raised_told]
    refine ⟨⟨h1, h2, h3, h4⟩, ?_⟩
    unfold v_MOST_NUMBER v_MOST_SIZE at *
    refine sum_run (fun a b => bin a (b + 1)) (by omega) h5 fun a b R b1 b2 b3 b4 b5 hR => ?_
    simp
    have e1 : (b : Int) + 1 = ((b + 1 : Nat) : Int) := by omega
    rw [e1]
    exact F_ch_nat (by unfold v_BIG; omega) (by omega) hR
  · exact h.elim
theorem i_grown_told : ∀ ds Q Z, F_grown_told ds Q Z → fnW 4 2 m_grown_told ds Q Z := by
  intro ds Q Z h
  unfold F_grown_told at h
  split at h
  · rename_i n k
    obtain ⟨⟨h1, h2, h3, h4⟩, h5⟩ := h
    refine ⟨rfl, ?_⟩
    simp [m_grown_told]
    refine ⟨⟨h1, h2, h3, h4⟩, ?_⟩
    unfold v_MOST_NUMBER v_MOST_SIZE at *
    refine sum_run (fun a b => bin (a + 1) (b + 1)) (by omega) h5 fun a b R b1 b2 b3 b4 b5 hR => ?_
    simp
    have e1 : (b : Int) + 1 = ((b + 1 : Nat) : Int) := by omega
    have e2 : (a : Int) + 1 = ((a + 1 : Nat) : Int) := by omega
    rw [e1, e2]
    have e3 : (((a + 1 : Nat)) : Int) < v_BIG := by
      unfold v_BIG
      omega
    exact F_ch_nat e3 (by omega) hR
  · exact h.elim
end K41

set_option Elab.async false
set_option linter.all false
set_option maxRecDepth 100000
set_option maxHeartbeats 4000000
namespace K41
open PySem PySem.Spec PyProof.Rows L2 DL
theorem i_law_says : ∀ ds Q Z, F_law_says ds Q Z → fnW 2 2 m_law_says ds Q Z := by
  intro ds Q Z h
  unfold F_law_says at h
  split at h
  · rename_i a b
    split at h
    · rename_i p q e1 e2
      refine ⟨rfl, ?_⟩
      simp [m_law_says, e1, e2]
      exact ⟨h.1.1, h.1.2, h.2⟩
    · exact h.elim
  · exact h.elim
@[simp] theorem dEq_ii (i j : Int) (P Z : D → Prop) : dEq (.int i) (.int j) P Z = P (.bl (decide (i = j))) := by
  have e : (i == j) = decide (i = j) := by
    by_cases h : i = j <;> simp [h]
  show ((SeqAt.shaped (.int i) = true ∧ SeqAt.shaped (.int j) = true) ∧ P (.bl (i == j))) = _
  rw [e]
  simp [SeqAt.shaped, PyData.canLay0, PyData.depth]
theorem i_law_take : ∀ ds Q Z, F_law_take ds Q Z → fnW 3 2 m_law_take ds Q Z := by
  intro ds Q Z h
  unfold F_law_take at h
  split at h
  · rename_i n
    obtain ⟨⟨h1, h2⟩, h3⟩ := h
    refine ⟨rfl, ?_⟩
    simp [m_law_take]
    have hl : n.natAbs.log2 < 9000 := by
      unfold v_BIG at h2
      have w := (Nat.log2_lt (n := n.natAbs) (k := 200) (by omega)).mpr (by omega)
      omega
    have key : ∀ t : Int, 0 ≤ t → 0 < n ∧ ∀ t1 : Int, 0 ≤ t1 → CDivW t1 n ∧ 0 ≤ t1 / n ∧ Q (D.int (t % n)) := fun t ht => ⟨h1, fun t1 h1' => ⟨⟨h1, hl⟩, Int.ediv_nonneg h1' (by omega), h3 _ (Int.emod_nonneg _ (by omega)) (Int.emod_lt_of_pos _ h1)⟩⟩
    intro t ht
    split
    · exact fun t2 h2' => ⟨h2', key⟩
    · exact key
  · exact h.elim
theorem ten_ok : ((List.range 32).all fun j => decide (PySem.intText? (("1" : Str) ++ strTimes "0" (j : Int)) = some ((10 : Int) ^ j)) && decide ((("1" : Str) ++ strTimes "0" (j : Int)).length ≤ 640) && decide ((strTimes "0" (j : Int)).length ≤ 640)) = true := by decide +kernel
theorem atI_mem {l : List D} {k : Int} (h0 : 0 ≤ k) (h1 : k < l.length) : ∃ d, atI l k = some d ∧ d ∈ l := by
  have hk : k.toNat < l.length := by omega
  refine ⟨l[k.toNat], ?_, List.getElem_mem hk⟩
  unfold atI ixN
  rw [if_pos h0, if_pos h1]
  exact List.getElem?_eq_getElem hk
theorem i_law_pick : ∀ ds Q Z, F_law_pick ds Q Z → fnW 2 2 m_law_pick ds Q Z := by
  intro ds Q Z h
  unfold F_law_pick at h
  split at h
  · rename_i l
    obtain ⟨⟨h1, h2⟩, h3⟩ := h
    refine ⟨rfl, ?_⟩
    simp [m_law_pick]
    refine ⟨⟨by omega, by unfold v_BIG; omega⟩, fun k k1 k2 => ?_⟩
    obtain ⟨d, e, hd⟩ := atI_mem k1 k2
    show (match atI l k with
      | some d => Q d
      | none => False)
    rw [e]
    exact h3 d hd
  · exact h.elim
theorem i_law_ten : ∀ ds Q Z, F_law_ten ds Q Z → fnW 1 1 m_law_ten ds Q Z := by
  intro ds Q Z h
  unfold F_law_ten at h
  split at h
  · rename_i m
    obtain ⟨⟨h1, h2⟩, h3⟩ := h
    refine ⟨rfl, ?_⟩
    simp [m_law_ten]
    obtain ⟨j, rfl⟩ : ∃ j : Nat, m = (j : Int) := ⟨m.toNat, by omega⟩
    have z := List.all_eq_true.mp ten_ok j (List.mem_range.mpr (by omega))
    simp only [Bool.and_eq_true, decide_eq_true_eq] at z
    obtain ⟨⟨z1, z2⟩, z3⟩ := z
    have z4 : ("0" : Str).length = 1 := by decide
    have z5 : ("1" : Str).length = 1 := by decide
    refine ⟨⟨⟨by omega, by omega, by omega⟩, by omega⟩, by omega, ?_⟩
    show (match PySem.intText? (("1" : Str) ++ strTimes "0" (j : Int)) with
      | some n => (("1" : Str) ++ strTimes "0" (j : Int)).length ≤ 640 ∧ Q (D.int n)
      | none => False)
    rw [z1]
    exact ⟨z2, h3⟩
  · exact h.elim
end K41

set_option Elab.async false
set_option linter.all false
set_option maxRecDepth 100000
set_option maxHeartbeats 4000000
namespace K41
open PySem PySem.Spec PyProof.Rows L2 DL
theorem i_law_mixed : ∀ ds Q Z, F_law_mixed ds Q Z → fnW 6 1 m_law_mixed ds Q Z := by
  intro ds Q Z h
  obtain ⟨rfl, h⟩ := h
  refine ⟨rfl, ?_⟩
  simp [m_law_mixed, -forS]
  intro t0 _
  refine ⟨by omega, fun t ht => ?_⟩
  refine forS_ind (fun ds e => (∀ d ∈ ds, ∃ g : Int, d = .int g ∧ 2147480000 < g ∧ g < 2147483648) ∧ ∃ f : Int, 0 ≤ f ∧ e = [.sh .drw, .sh (.int t), .sh (.int f), .un, .un, .un]) (fun e he => ?_) (fun d ds e F he hF => ?_) _ _ ⟨by simp, 0, by omega, rfl⟩
  · obtain ⟨_, f, hf, rfl⟩ := he
    simpa using h f hf
  · obtain ⟨hd, f, hf, rfl⟩ := he
    obtain ⟨g, rfl, g1, g2⟩ := hd d List.mem_cons_self
    have hF2 : ∀ f2 : Int, 0 ≤ f2 → F [.sh .drw, .sh (.int t), .sh (.int f2), .un, .un, .un] := fun f2 h2 => hF _ ⟨fun d' h' => hd d' (List.mem_cons_of_mem _ h'), f2, h2, rfl⟩
    simp [-forS]
    refine ⟨.inr (.inr (by omega)), ⟨by decide, by decide⟩, by omega, fun cs hc hz => ?_⟩
    refine forS_ind (fun ds e => (∀ d ∈ ds, ∃ z : Int, d = .int z) ∧ ∃ bl : Int, 0 ≤ bl ∧ bl < 2147483648 ∧ e = [.sh .drw, .sh (.int t), .sh (.int f), .sh (.int g), .sh (.int bl), .un]) (fun e he => ?_) (fun d ds e F2 he hG => ?_) _ _
      ⟨fun d hd => by obtain ⟨z, _, e⟩ := List.mem_map.mp hd; exact ⟨z, e.symm⟩, (t * 69621 + g / 7) % g, Int.emod_nonneg _ (by omega), by have := Int.emod_lt_of_pos (t * 69621 + g / 7) (show 0 < g by omega); omega, rfl⟩
    · obtain ⟨_, bl, b1, b2, rfl⟩ := he
      simp
      refine ⟨.inr (.inr (by omega)), ⟨by decide, by decide, by omega⟩, by omega, hF2 _ ?_⟩
      have z1 := Int.emod_nonneg (bl ^ 5) (show g ≠ 0 by omega)
      have z2 : 0 ≤ f * 2147483647 := Int.mul_nonneg hf (by decide)
      omega
    · obtain ⟨hd2, bl, b1, b2, rfl⟩ := he
      obtain ⟨z, rfl⟩ := hd2 d List.mem_cons_self
      simp
      refine ⟨.inr (.inr (by omega)), by omega, hG _ ⟨fun d' h' => hd2 d' (List.mem_cons_of_mem _ h'), _, Int.emod_nonneg _ (by omega), ?_, rfl⟩⟩
      have := Int.emod_lt_of_pos (bl * 48271 + z + 1) (show 0 < g by omega)
      omega
end K41

set_option Elab.async false
set_option linter.all false
set_option maxRecDepth 100000
set_option maxHeartbeats 4000000
namespace K41
open PySem PySem.Spec PyProof.Rows L2 DL
theorem F_lch_nat {L S : Nat} {P Z : D → Prop} (h2 : (L : Int) < v_BIG) (h4 : S ≤ 60) (h : P (.int (bin L S : Nat))) : F_law_choose [.int L, .int S] P Z := F_ch_nat h2 h4 h
theorem i_law_cascade : ∀ ds Q Z, F_law_cascade ds Q Z → fnW 8 2 m_law_cascade ds Q Z := by
  intro ds Q Z h
  unfold F_law_cascade F_cascade_told at h
  split at h
  · rename_i n k
    obtain ⟨⟨h1, h2, h3, h4⟩, h5⟩ := h
    obtain ⟨N, rfl⟩ : ∃ N : Nat, n = (N : Int) := ⟨n.toNat, by omega⟩
    obtain ⟨J, rfl⟩ : ∃ J : Nat, k = (J : Int) := ⟨k.toNat, by omega⟩
    unfold v_MOST_NUMBER v_MOST_SIZE at *
    have e5 : cascD (J : Int).toNat (N : Int).toNat = cascD J N := rfl
    rw [e5] at h5
    refine ⟨rfl, ?_⟩
    simp [m_law_cascade]
    refine ⟨fun m e => ∃ (L S : Nat) (fs : List D), e = [.sh (.int N), .sh (.int J), .own fs, .sh (.int L), .sh (.int S), .un, .un, .un] ∧ fs ++ cascD S L = cascD J N ∧ L ≤ N ∧ fs.length + S ≤ 40 ∧ (S = 0 → L = 0) ∧ m = S, ?_, ?_⟩
    · exact ⟨J, N, J, [], by simp, by simp, by omega, by simp; omega, by omega, rfl⟩
    · rintro m e ⟨L, S, fs, rfl, q1, q2, q3, q4, q5⟩
      simp
      split
      · rename_i w
        obtain ⟨S, rfl⟩ : ∃ S', S = S' + 1 := ⟨S - 1, by omega⟩
        have zl := left_small (s := S) (n := L) (by omega)
        have zd := cascD_step (s := S) (n := L) (by omega)
        refine ⟨fun m e => ∃ lo hi : Nat, e = [.sh (.int N), .sh (.int J), .own fs, .sh (.int L), .sh (.int ((S + 1 : Nat) : Int)), .sh (.int lo), .sh (.int hi), .un] ∧ S + 1 ≤ lo ∧ lo < hi ∧ hi ≤ 2 * lo + 1 ∧ bin lo (S + 1) ≤ L ∧ m = L + (S + 1) + 2 - lo, ?_, ?_⟩
        · exact ⟨_, S + 1, S + 2, by simp; omega, by omega, by omega, by omega, by rw [bin_self]; omega, rfl⟩
        · rintro m e ⟨lo, hi, rfl, r1, r2, r3, r4, r5⟩
          have b := gp_bound (n := L) (s := S + 1) (a := lo) (by omega) r4
          simp
          have e0 : (S : Int) + 1 = ((S + 1 : Nat) : Int) := by omega
          rw [e0]
          refine F_lch_nat (L := hi) (S := S + 1) (by unfold v_BIG; omega) (by omega) ?_
          simp
          split
          · rename_i y
            exact ⟨.inr (.inl (by omega)), L + (S + 1) + 2 - hi, by omega, hi, 2 * hi, ⟨rfl, by omega⟩, by omega, by omega, by omega, by omega, rfl⟩
          · rename_i y
            refine ⟨fun m e => ∃ lo hi : Nat, (∃ s, e = [.sh (.int N), .sh (.int J), .own fs, .sh (.int L), .sh (.int ((S + 1 : Nat) : Int)), .sh (.int lo), .sh (.int hi), s]) ∧ S + 1 ≤ lo ∧ lo < hi ∧ bin lo (S + 1) ≤ L ∧ L < bin hi (S + 1) ∧ hi ≤ 2 * (L + (S + 1)) + 2 ∧ m = hi - lo, ?_, ?_⟩
            · exact ⟨_, lo, hi, ⟨.un, by simp⟩, r1, r2, r4, by omega, by omega, rfl⟩
            · rintro m e ⟨lo, hi, ⟨s, rfl⟩, r1, r2, r4, r5, r6, r7⟩
              simp
              split
              · rename_i z
                have e1 : ((lo : Int) + hi) / 2 = (((lo + hi) / 2 : Nat) : Int) := by omega
                have e2 : (S : Int) + 1 = ((S + 1 : Nat) : Int) := by omega
                refine ⟨⟨by omega, by decide⟩, ?_⟩
                rw [e1, e2]
                refine F_lch_nat (L := (lo + hi) / 2) (S := S + 1) (by unfold v_BIG; omega) (by omega) ?_
                simp
                split
                · rename_i y
                  exact ⟨hi - (lo + hi) / 2, by omega, (lo + hi) / 2, hi, by simp, by omega, by omega, by omega, r5, r6, rfl⟩
                · rename_i y
                  exact ⟨(lo + hi) / 2 - lo, by omega, lo, (lo + hi) / 2, by simp, r1, by omega, r4, by omega, by omega, rfl⟩
              · rename_i z
                have e2 : hi = lo + 1 := by omega
                rw [e2] at r5
                have eg := gp_uniq (by omega) (by omega) r4 r5
                refine ⟨by omega, ?_⟩
                have e3 : (S : Int) + 1 = ((S + 1 : Nat) : Int) := by omega
                rw [e3]
                refine F_lch_nat (L := lo) (S := S + 1) (by unfold v_BIG; omega) (by omega) ?_
                have r8 := r4
                rw [eg] at r8
                rw [eg]
                simp
                refine ⟨S, by omega, L - bin (gp L (S + 1)) (S + 1), S, fs ++ [D.tup [.int (gp L (S + 1) : Nat), .int ((S + 1 : Nat) : Int)]], ⟨by simp, by omega, rfl⟩, ?_, by omega, ?_, ?_, rfl⟩
                · rw [List.append_assoc, List.singleton_append, ← zd]
                  exact q1
                · rw [List.length_append]
                  simp
                  omega
                · intro e4
                  subst e4
                  rw [bin_zero] at zl
                  omega
      · rename_i w
        have e0 : L = 0 := by omega
        rw [e0, cascD_zero, List.append_nil] at q1
        rw [q1]
        exact h5
  · exact h.elim
end K41

set_option Elab.async false
set_option linter.all false
set_option maxRecDepth 100000
set_option maxHeartbeats 4000000
namespace DL
open PySem PySem.Spec PyProof.Rows L2
/-- shown within bounds: weight, depth -/
structure FineN (w d : Nat) (p : PyData) : Prop where
  s : p.showable = true
  l : p.leavesShort 100 = true
  w : p.weight ≤ w
  d : p.depth ≤ d
theorem FineN.shown {w d : Nat} {p : PyData} (h : FineN w d p) (hw : w ≤ 100000) (hd : d ≤ 100) : p.showable = true ∧ p.shown.length ≤ 16777216 ∧ p.depth ≤ 100 := by
  refine ⟨h.s, ?_, Nat.le_trans h.d hd⟩
  have z := PyData.shown_le 100 (by decide) p h.l
  have z2 := h.w
  omega
theorem FineN.mono {w d w2 d2 : Nat} {p : PyData} (h : FineN w d p) (hw : w ≤ w2) (hd : d ≤ d2) : FineN w2 d2 p := ⟨h.s, h.l, Nat.le_trans h.w hw, Nat.le_trans h.d hd⟩
theorem fine_int {i : Int} (h : i.natAbs < 2 ^ 300) : FineN 300 0 (.int i) := by
  have h0 : i.natAbs ≠ 0 → i.natAbs.log2 < 300 := fun z => (Nat.log2_lt z).mpr h
  have h1 : i.natAbs.log2 < 300 := by
    by_cases z : i.natAbs = 0
    · rw [z]
      decide
    · exact h0 z
  refine ⟨?_, ?_, ?_, Nat.le_refl _⟩
  · show decide (i.natAbs.log2 < 1920) = true
    exact decide_eq_true (by omega)
  · show decide ((PyData.shown (.int i)).length ≤ 100) = true
    refine decide_eq_true ?_
    have z := int_text_length_le10 (a := i) (k := 99) (by decide) (Nat.lt_trans h (by decide))
    have e : (PyData.shown (.int i)).length = (toString i).length := PySem.ofString_length _
    omega
  · show (if i == 0 then 0 else i.natAbs.log2 + 1) ≤ 300
    split <;> omega
theorem fine_nat {n : Nat} (h : n < 2 ^ 300) : FineN 300 0 (.int (n : Int)) := fine_int h
theorem fineAll {w d : Nat} : ∀ {ps : List PyData}, (∀ p ∈ ps, FineN w d p) → PyData.showableAll ps = true ∧ PyData.leavesShortAll 100 ps = true ∧ PyData.weightAll ps ≤ ps.length * (w + 1) ∧ PyData.depthAll ps ≤ d
  | [], _ => ⟨rfl, rfl, Nat.zero_le _, Nat.zero_le _⟩
  | p :: ps, h => by
    obtain ⟨h1, h2, h3, h4⟩ := fineAll fun q hq => h q (List.mem_cons_of_mem _ hq)
    have z := h p List.mem_cons_self
    refine ⟨?_, ?_, ?_, ?_⟩
    · show (p.showable && PyData.showableAll ps) = true
      rw [z.s, h1]; rfl
    · show (p.leavesShort 100 && PyData.leavesShortAll 100 ps) = true
      rw [z.l, h2]; rfl
    · show p.weight + 1 + PyData.weightAll ps ≤ (ps.length + 1) * (w + 1)
      have := z.w
      rw [Nat.add_mul]
      omega
    · show max p.depth (PyData.depthAll ps) ≤ d
      have := z.d
      omega
theorem fine_lst {w d w2 d2 : Nat} {ps : List PyData} (h : ∀ p ∈ ps, FineN w d p) (hw : ps.length * (w + 1) ≤ w2) (hd : d + 1 ≤ d2) : FineN w2 d2 (.list ps) := by
  obtain ⟨h1, h2, h3, h4⟩ := fineAll h
  exact ⟨h1, h2, Nat.le_trans h3 hw, Nat.le_trans (Nat.succ_le_succ h4) hd⟩
theorem fine_tup {w d w2 d2 : Nat} {ps : List PyData} (h : ∀ p ∈ ps, FineN w d p) (hw : ps.length * (w + 1) ≤ w2) (hd : d + 1 ≤ d2) : FineN w2 d2 (.tuple ps) := by
  obtain ⟨h1, h2, h3, h4⟩ := fineAll h
  exact ⟨h1, h2, Nat.le_trans h3 hw, Nat.le_trans (Nat.succ_le_succ h4) hd⟩
/-- no element passes the test -/
theorem lcE_none {T : D → Ev → Option Ev} {mc : Ev → W Bool} {me : EM} {env : Ev} {Z : D → Prop} : ∀ (ds : List D) (P : List D → Prop), (∀ d ∈ ds, ∀ Q : Bool → Prop, Q false → match T d env with
      | none => False
      | some e1 => mc e1 Q (fun _ => False)) → P [] → lcE T mc me env ds P Z
  | [], P, _, h => h
  | d :: ds, P, hm, h => by
    unfold lcE
    have z := hm d List.mem_cons_self (fun b => if b = true then me (((T d env).getD [])) (fun y => lcE T mc me env ds (fun ys => P (y :: ys)) Z) (fun _ => False) else lcE T mc me env ds P Z)
      (lcE_none ds P (fun d' h' => hm d' (List.mem_cons_of_mem _ h')) h)
    cases q : T d env with
    | none =>
      rw [q] at z
      exact z
    | some e1 =>
      rw [q] at z
      exact z
theorem cut_one (xs : List D) : cutD xs (some 1) none = xs.drop 1 := by
  have e1 : HT.sIx xs.length 0 (some 1) = min 1 xs.length := HT.sIx_nat _ _ 1
  have e2 : HT.sIx xs.length xs.length none = xs.length := rfl
  unfold cutD
  rw [e1, e2]
  cases xs with
  | nil => rfl
  | cons x xs =>
    have e3 : min 1 (x :: xs).length = 1 := by rw [List.length_cons]; omega
    rw [e3]
    refine List.take_of_length_le ?_
    rw [List.length_drop]
    exact Nat.le_refl _
end DL
namespace K41
open PySem PySem.Spec PyProof.Rows L2 DL
local macro_rules | `(tactic| walk_at "dd") => `(tactic| dsimp only [sSq, sRt, sRn, sDr, sSet, sPr, sTg, sIf, sBk, sCt, sNil, sApp, sFz, sNx, eVar, eC, e1, e2, eIf, aNil, aCons, eA, tNt, tAn, tOo, eAnd, eOr, eNot, eTup, eLst, tBo, eLc, eSl, oNo, oSo, eF, tTrue, iOf, iZp, iRg1, iRg2, List.set, List.getElem?_cons_zero, List.getElem?_cons_succ, List.map, List.replicate, List.append, List.cons_append, List.nil_append, fnW, noOwn, blkE, kilE, bTup, bSum, bMin2, bMax2, bLen, List.getD_cons_zero, List.getD_cons_succ])
theorem i_law_shadow : ∀ ds Q Z, F_law_shadow ds Q Z → fnW 4 2 m_law_shadow ds Q Z := i_shadow_told
theorem i_law_raised : ∀ ds Q Z, F_law_raised ds Q Z → fnW 4 2 m_law_raised ds Q Z := i_raised_told
theorem i_law_grown : ∀ ds Q Z, F_law_grown ds Q Z → fnW 4 2 m_law_grown ds Q Z := i_grown_told
theorem F_take_n {P Z : D → Prop} {n : Int} (h1 : 0 < n) (h2 : n < v_BIG) (h : ∀ k : Int, 0 ≤ k → k < n → P (.int k)) : F_law_take [.drw, .int n] P Z := ⟨⟨h1, h2⟩, h⟩
theorem F_pick_l {P Z : D → Prop} {l : List D} (h1 : 0 < l.length) (h2 : l.length < 1000) (h : ∀ d ∈ l, P d) : F_law_pick [.drw, .lst l] P Z := ⟨⟨h1, h2⟩, h⟩
set_option simprocs false

theorem ten30 : ((10 : Int) ^ (30 : Int).toNat) = v_MOST_NUMBER := by decide +kernel
theorem cpow1 : CPow 10 30 := ⟨by decide, by decide, by decide⟩
theorem cpow2 : CPow 10 18 := ⟨by decide, by decide, by decide⟩
theorem dPow_i {i j : Int} {P Z : D → Prop} (c : CPow i j) (h : P (.int (i ^ j.toNat))) : dPow (.int i) (.int j) P Z := ⟨c, h⟩
theorem dAdd_i {i j : Int} {P Z : D → Prop} (h : P (.int (i + j))) : dAdd (.int i) (.int j) P Z := h
theorem dSub_i {i j : Int} {P Z : D → Prop} (h : P (.int (i - j))) : dSub (.int i) (.int j) P Z := h
theorem dLe_i {i j : Int} {P Z : D → Prop} (h : P (.bl (decide (i ≤ j)))) : dLe (.int i) (.int j) P Z := h
theorem dLt_i {i j : Int} {P Z : D → Prop} (h : P (.bl (decide (i < j)))) : dLt (.int i) (.int j) P Z := h
theorem dGt_i {i j : Int} {P Z : D → Prop} (h : P (.bl (decide (j < i)))) : dGt (.int i) (.int j) P Z := h
theorem dNe_ii {i j : Int} {P Z : D → Prop} (h : P (.bl (!decide (i = j)))) : dNe (.int i) (.int j) P Z := by
  have e : (i == j) = decide (i = j) := by
    by_cases h : i = j <;> simp [h]
  show ((SeqAt.shaped (.int i) = true ∧ SeqAt.shaped (.int j) = true) ∧ P (.bl (!(i == j))))
  rw [e]
  exact ⟨⟨by simp [SeqAt.shaped, PyData.canLay0, PyData.depth], by simp [SeqAt.shaped, PyData.canLay0, PyData.depth]⟩, h⟩
theorem dIx_t {l : List D} {i : Int} {d : D} {P Z : D → Prop} (e : atI l i = some d) (h : P d) : dIx (.tup l) (.int i) P Z := by
  show (match atI l i with
    | some d => P d
    | none => False)
  rw [e]
  exact h
theorem dNe_bb {i j : Bool} {P Z : D → Prop} (h : P (.bl (!(i == j)))) : dNe (.bl i) (.bl j) P Z :=
  ⟨⟨by simp [SeqAt.shaped, PyData.canLay0, PyData.depth], by simp [SeqAt.shaped, PyData.canLay0, PyData.depth]⟩, h⟩
theorem dNe_nil {P Z : D → Prop} (h : P (.bl false)) : dNe (.lst []) (.lst []) P Z := ⟨⟨by decide, by decide⟩, h⟩
theorem dEq_nil {P Z : D → Prop} (h : P (.bl true)) : dEq (.lst []) (.lst []) P Z := ⟨⟨by decide, by decide⟩, h⟩
theorem i_law_numbers_bad : ∀ ds Q Z, F_law_numbers_bad ds Q Z → fnW 1 1 m_law_numbers_bad ds Q Z := by
  intro ds Q Z h
  unfold F_law_numbers_bad at h
  split at h
  · refine ⟨rfl, ?_⟩
    unfold m_law_numbers_bad
    walk_at "dd"
    refine dPow_i cpow1 (dAdd_i ⟨by decide, by decide, by show 7 ≤ 16777216; decide, rfl, F_pick_l (by decide) (by show 7 < 1000; decide) ?_⟩)
    exact h
  · exact h.elim
theorem F_ten_n {P Z : D → Prop} {m : Int} (h1 : 0 ≤ m) (h2 : m ≤ 31) (h : P (.int (10 ^ m.toNat))) : F_law_ten [.int m] P Z := ⟨⟨h1, h2⟩, h⟩
theorem pow_le (m : Nat) (h : m ≤ 30) : (0 : Int) ≤ 10 ^ m ∧ (10 : Int) ^ m ≤ v_MOST_NUMBER := by
  have z : ((List.range 31).all fun j => decide ((0 : Int) ≤ 10 ^ j ∧ (10 : Int) ^ j ≤ v_MOST_NUMBER)) = true := by decide +kernel
  exact of_decide_eq_true (List.all_eq_true.mp z m (List.mem_range.mpr (by omega)))
theorem i_law_drawn_number : ∀ ds Q Z, F_law_drawn_number ds Q Z → fnW 1 1 m_law_drawn_number ds Q Z := by
  intro ds Q Z h
  unfold F_law_drawn_number at h
  split at h
  · refine ⟨rfl, ?_⟩
    unfold m_law_drawn_number
    walk_at "dd"
    have e18 : ((10 : Int) ^ (18 : Int).toNat) = 1000000000000000000 := by decide +kernel
    have hM : v_MOST_NUMBER = 1000000000000000000000000000000 := rfl
    have hB : v_BIG = 1606938044258990275541962092341162602522202993782792835301376 := rfl
    refine ⟨rfl, F_take_n (by decide) (by decide) fun k1 a1 b1 => ⟨rfl, F_take_n (by decide) (by decide) fun k2 a2 b2 => ⟨rfl, F_take_n (by decide) (by decide) fun k3 a3 b3 => ⟨rfl, F_take_n (by decide) (by decide) fun k4 a4 b4 => ⟨rfl, F_ten_n a4 (by omega) ?_⟩⟩⟩⟩⟩
    refine dPow_i cpow2 ⟨rfl, F_take_n (by rw [e18]; decide) (by rw [e18]; decide) fun k5 a5 b5 => dPow_i cpow1 ⟨by show 8 ≤ 16777216; decide, rfl, F_pick_l (by show 0 < 8; decide) (by show 8 < 1000; decide) fun d hd => ?_⟩⟩
    rw [e18] at b5
    rw [ten30] at hd
    have hp := pow_le k4.toNat (by omega)
    simp only [List.mem_cons, List.not_mem_nil, or_false] at hd
    rcases hd with rfl | rfl | rfl | rfl | rfl | rfl | rfl | rfl
    · exact h 0 (by decide) (by decide)
    · exact h 1 (by decide) (by decide)
    · exact h _ a1 (by omega)
    · exact h _ a2 (by omega)
    · exact h _ a3 (by omega)
    · exact h _ hp.1 hp.2
    · exact h _ a5 (by omega)
    · exact h _ (by decide) (Int.le_refl _)
  · exact h.elim
theorem F_draw_n {P Z : D → Prop} (h : ∀ n : Nat, (n : Int) ≤ v_MOST_NUMBER → P (.int (n : Int))) : F_law_drawn_number [.drw] P Z := fun z h1 h2 => by
  obtain ⟨n, rfl⟩ : ∃ n : Nat, z = (n : Int) := ⟨z.toNat, by omega⟩
  exact h n h2
theorem F_lraised_n {P Z : D → Prop} {n k : Nat} (h1 : (n : Int) ≤ v_MOST_NUMBER) (h2 : 1 ≤ k) (h3 : (k : Int) ≤ v_MOST_SIZE) (h : P (.int (raisedN k n : Nat))) : F_law_raised [.int n, .int k] P Z := ⟨⟨by omega, h1, by omega, h3⟩, h⟩
theorem F_lshadow_n {P Z : D → Prop} {n k : Nat} (h1 : (n : Int) ≤ v_MOST_NUMBER) (h2 : 1 ≤ k) (h3 : (k : Int) ≤ v_MOST_SIZE) (h : P (.int (shadowN k n : Nat))) : F_law_shadow [.int n, .int k] P Z := ⟨⟨by omega, h1, by omega, h3⟩, h⟩
theorem F_lgrown_n {P Z : D → Prop} {n k : Nat} (h1 : (n : Int) ≤ v_MOST_NUMBER) (h2 : 1 ≤ k) (h3 : (k : Int) ≤ v_MOST_SIZE) (h : P (.int (grownN k n : Nat))) : F_law_grown [.int n, .int k] P Z := ⟨⟨by omega, h1, by omega, h3⟩, h⟩
theorem F_lcasc_n {P Z : D → Prop} {n k : Nat} (h1 : (n : Int) ≤ v_MOST_NUMBER) (h2 : 1 ≤ k) (h3 : (k : Int) ≤ v_MOST_SIZE) (h : P (.lst (cascD k n))) : F_law_cascade [.int n, .int k] P Z := ⟨⟨by omega, h1, by omega, h3⟩, h⟩
theorem need_n {P Z : D → Prop} {n k : Nat} {p : W D} (h1 : (n : Int) ≤ v_MOST_NUMBER) (h2 : 1 ≤ k) (h3 : (k : Int) ≤ v_MOST_SIZE) (h : p P Z) : need (.int n) (.int k) p P Z := by
  have g1 : good (.int n) 0 v_MOST_NUMBER = true := decide_eq_true ⟨by omega, h1⟩
  have g2 : good (.int k) 1 v_MOST_SIZE = true := decide_eq_true ⟨by omega, h3⟩
  unfold need
  refine ⟨⟨fun z => (nomatch (show (some "int" : Option String) = none from z)), fun _ z => (nomatch (show (some "int" : Option String) = none from z))⟩, ?_⟩
  rw [if_pos g1, if_pos g2]
  exact h
theorem F_casc_n {P Z : D → Prop} {n k : Nat} (h1 : (n : Int) ≤ v_MOST_NUMBER) (h2 : 1 ≤ k) (h3 : (k : Int) ≤ v_MOST_SIZE) (h : P (.tup (cascD k n))) : F_cascade [.int n, .int k] P Z := by
  unfold F_cascade
  dsimp only
  refine need_n h1 h2 h3 ?_
  exact h
theorem F_shadow_n {P Z : D → Prop} {n k : Nat} (h1 : (n : Int) ≤ v_MOST_NUMBER) (h2 : 1 ≤ k) (h3 : (k : Int) ≤ v_MOST_SIZE) (h : P (.int (shadowN k n : Nat))) : F_shadow_many [.int n, .int k] P Z := by
  unfold F_shadow_many
  dsimp only
  refine need_n h1 h2 h3 ?_
  exact h
theorem F_raised_n {P Z : D → Prop} {n k : Nat} (h1 : (n : Int) ≤ v_MOST_NUMBER) (h2 : 1 ≤ k) (h3 : (k : Int) ≤ v_MOST_SIZE) (h : P (.int (raisedN k n : Nat))) : F_raised_many [.int n, .int k] P Z := by
  unfold F_raised_many
  dsimp only
  refine need_n h1 h2 h3 ?_
  exact h
theorem F_grown_n {P Z : D → Prop} {n k : Nat} (h1 : (n : Int) ≤ v_MOST_NUMBER) (h2 : 1 ≤ k) (h3 : (k : Int) ≤ v_MOST_SIZE) (h : P (.int (grownN k n : Nat))) : F_grown [.int n, .int k] P Z := by
  unfold F_grown
  dsimp only
  refine need_n h1 h2 h3 ?_
  exact h
theorem eL_i {i n : Nat} {Fm : Str → Option (Nat × (List D → W D))} {ml : Ev → W (List D)} {env : Ev} {P Z : D → Prop} {y : Str} {F : List D → W D} (h : env[i]? = some (.sh (.fn y))) (e : Fm y = some (n, F)) (h2 : ml env (fun ds => ds.length = n ∧ F ds P Z) Z) : eL i Fm ml env P Z := by
  unfold eL
  rw [h]
  dsimp only
  rw [e]
  exact h2
theorem i_law_pair_right : ∀ ds Q Z, F_law_pair_right ds Q Z → fnW 7 1 m_law_pair_right ds Q Z := by
  intro ds Q Z h
  unfold F_law_pair_right at h
  split at h
  · refine ⟨rfl, ?_⟩
    show m_law_pair_right [.sh .drw, .un, .un, .un, .un, .un, .un] _
    unfold m_law_pair_right
    walk_at "dd"
    refine ⟨rfl, F_take_n (by decide) (by decide) fun kk a1 b1 => ?_⟩
    obtain ⟨S, hS⟩ : ∃ S : Nat, (1 : Int) + kk = (S : Int) := ⟨(1 + kk).toNat, by omega⟩
    refine dAdd_i ⟨rfl, ?_⟩
    rw [hS]
    have s1 : 1 ≤ S := by omega
    have s2 : S ≤ 39 := by omega
    have s3 : (S : Int) ≤ v_MOST_SIZE := by unfold v_MOST_SIZE; omega
    have s4 : ((S + 1 : Nat) : Int) ≤ v_MOST_SIZE := by unfold v_MOST_SIZE; omega
    refine F_draw_n fun N hN => ⟨Nat.le_of_ble_eq_true rfl, ?_⟩
    dsimp only [tg2]
    walk_at "dd"
    refine dPow_i cpow1 ⟨rfl, F_lraised_n hN s1 s3 ?_⟩
    rw [ten30]
    refine dPow_i cpow1 ⟨rfl, F_lraised_n hN s1 s3 (dAdd_i ⟨rfl, F_draw_n fun N2 hN2 => ⟨Nat.le_of_ble_eq_true rfl, rfl, F_pick_l (Nat.le_of_ble_eq_true rfl) (Nat.le_of_ble_eq_true rfl) fun d hd => ?_⟩⟩)⟩
    rw [ten30] at hd
    obtain ⟨M, rfl, hM⟩ : ∃ M : Nat, d = .int (M : Int) ∧ (M : Int) ≤ v_MOST_NUMBER := by
      have hv : v_MOST_NUMBER = 1000000000000000000000000000000 := rfl
      simp only [List.mem_cons, List.not_mem_nil, or_false] at hd
      rcases hd with rfl | rfl | rfl
      · split
        · exact ⟨_, rfl, by omega⟩
        · exact ⟨1000000000000000000000000000000, rfl, Int.le_refl _⟩
      · split
        · exact ⟨raisedN S N + 1, rfl, by omega⟩
        · exact ⟨1000000000000000000000000000000, rfl, Int.le_refl _⟩
      · exact ⟨_, rfl, hN2⟩
    clear hd
    refine ⟨rfl, F_raised_n hN s1 s3 (dLe_i (dAdd_i ⟨rfl, ?_⟩))⟩
    have e1 : (S : Int) + 1 = ((S + 1 : Nat) : Int) := by omega
    rw [e1]
    refine F_shadow_n hM (by omega) s4 (dLe_i (dNe_bb ?_))
    have ad := adj S M N (by omega)
    have e2 : (!decide ((M : Int) ≤ (raisedN S N : Nat)) == decide ((shadowN (S + 1) M : Nat) ≤ (N : Int))) = false := by
      by_cases z : M ≤ raisedN S N
      · have z2 := ad.mp z
        rw [decide_eq_true (show (M : Int) ≤ (raisedN S N : Nat) by omega), decide_eq_true (show ((shadowN (S + 1) M : Nat) : Int) ≤ (N : Int) by omega)]
        rfl
      · have z2 : ¬ shadowN (S + 1) M ≤ N := fun q => z (ad.mpr q)
        rw [decide_eq_false (show ¬ (M : Int) ≤ (raisedN S N : Nat) by omega), decide_eq_false (show ¬ ((shadowN (S + 1) M : Nat) : Int) ≤ (N : Int) by omega)]
        rfl
    rw [e2]
    walk_at "dd"
    rw [if_neg (by decide)]
    refine ⟨Nat.le_of_ble_eq_true rfl, Nat.le_of_ble_eq_true rfl, Nat.le_of_ble_eq_true rfl, ?_⟩
    obtain ⟨lo, hlo⟩ : ∃ lo : Nat, (if (M : Int) < N then (M : Int) else N) = (lo : Int) ∧ (lo : Int) ≤ v_MOST_NUMBER := by
      split
      · exact ⟨M, rfl, hM⟩
      · exact ⟨N, rfl, hN⟩
    obtain ⟨hi, hhi⟩ : ∃ hi : Nat, (if (M : Int) > N then (M : Int) else N) = (hi : Int) ∧ (hi : Int) ≤ v_MOST_NUMBER := by
      split
      · exact ⟨M, rfl, hM⟩
      · exact ⟨N, rfl, hN⟩
    have hlh : lo ≤ hi := by
      obtain ⟨a1, _⟩ := hlo
      obtain ⟨a2, _⟩ := hhi
      split at a1 <;> split at a2 <;> omega
    rw [hlo.1, hhi.1]
    refine lcE_none _ _ (fun d hd R hR => ?_) ⟨Nat.le_of_ble_eq_true rfl, dEq_nil h⟩
    simp only [List.mem_cons, List.not_mem_nil, or_false] at hd
    have mono : ∀ a b : Nat, a ≤ b → R (decide ((b : Int) < (a : Int))) := fun a b hab => by
      rw [decide_eq_false (by omega)]
      exact hR
    rcases hd with rfl | rfl | rfl
    · dsimp only [tgN, List.set]
      walk_at "dd"
      refine eL_i rfl rfl ?_
      walk_at "dd"
      refine ⟨rfl, F_shadow_n hlo.2 s1 s3 ?_⟩
      refine eL_i rfl rfl ?_
      walk_at "dd"
      refine ⟨rfl, F_shadow_n hhi.2 s1 s3 ?_⟩
      exact mono _ _ (shadow_mono _ _ _ hlh)
    · dsimp only [tgN, List.set]
      walk_at "dd"
      refine eL_i rfl rfl ?_
      walk_at "dd"
      refine ⟨rfl, F_raised_n hlo.2 s1 s3 ?_⟩
      refine eL_i rfl rfl ?_
      walk_at "dd"
      refine ⟨rfl, F_raised_n hhi.2 s1 s3 ?_⟩
      exact mono _ _ (raised_mono _ _ _ hlh)
    · dsimp only [tgN, List.set]
      walk_at "dd"
      refine eL_i rfl rfl ?_
      walk_at "dd"
      refine ⟨rfl, F_grown_n hlo.2 s1 s3 ?_⟩
      refine eL_i rfl rfl ?_
      walk_at "dd"
      refine ⟨rfl, F_grown_n hhi.2 s1 s3 ?_⟩
      exact mono _ _ (grown_mono _ _ _ s1 hlh)
  · exact h.elim
theorem F_says_same {P Z : D → Prop} {a b : D} {p : PyData} {w d : Nat} (ea : toPy a = some p) (eb : toPy b = some p) (hf : FineN w d p) (hw : w ≤ 100000) (hd : d ≤ 100) (h : P (.bl true)) : F_law_says [a, b] P Z := by
  unfold F_law_says
  dsimp only
  rw [ea, eb]
  dsimp only
  rw [decide_eq_true rfl]
  exact ⟨⟨hf.shown hw hd, hf.shown hw hd⟩, h⟩
theorem sIf_no {c : Ev → W Bool} {a b : SM} {env : Ev} {k : KS} (hc : ∀ (P : Bool → Prop) (Z : D → Prop), P false → c env P Z) (h : b env k) : sIf c a b env k := hc _ _ (by rw [if_neg (by decide)]; exact h)
theorem sSqIf_no {c : Ev → W Bool} {a r : SM} {env : Ev} {k : KS} (hc : ∀ (P : Bool → Prop) (Z : D → Prop), P false → c env P Z) (h : r env k) : sSq (sIf c a sNx) r env k := hc _ _ (by rw [if_neg (by decide)]; exact h)
theorem tOo_no {c d : Ev → W Bool} {env : Ev} (hc : ∀ (P : Bool → Prop) (Z : D → Prop), P false → c env P Z) (hd : ∀ (P : Bool → Prop) (Z : D → Prop), P false → d env P Z) : ∀ (P : Bool → Prop) (Z : D → Prop), P false → tOo c d env P Z :=
  fun P Z h => hc _ _ (by rw [if_neg (by decide)]; exact hd P Z h)
theorem tNt_no {a : EM} {env : Ev} (ha : ∀ (P : D → Prop) (Z : D → Prop), P (.bl true) → a env P Z) : ∀ (P : Bool → Prop) (Z : D → Prop), P false → tNt (tTru a) env P Z := fun P Z h => ha _ _ h
theorem tBo_no {a : EM} {env : Ev} (ha : ∀ (P : D → Prop) (Z : D → Prop), P (.bl false) → a env P Z) : ∀ (P : Bool → Prop) (Z : D → Prop), P false → tBo a env P Z := fun P Z h => ha _ _ h
def cascP (s n : Nat) : List PyData := (casc s n).map fun p => .tuple [.int p.1, .int p.2]
theorem toPys_casc : ∀ l : List (Nat × Nat), toPys (l.map fun p => D.tup [.int p.1, .int p.2]) = some (l.map fun p => .tuple [.int p.1, .int p.2])
  | [] => rfl
  | p :: l => by
    rw [List.map_cons, List.map_cons, toPys, toPys_casc l]
    rfl
theorem toPy_casc (s n : Nat) : toPy (.tup (cascD s n)) = some (.tuple (cascP s n)) := by
  unfold cascD cascP
  rw [toPy, toPys_casc]
  rfl
theorem fine_casc {s n : Nat} (hs : s ≤ 40) (hn : (n : Int) ≤ v_MOST_NUMBER) : FineN 30000 2 (.tuple (cascP s n)) := by
  have hM : v_MOST_NUMBER = 1000000000000000000000000000000 := rfl
  refine fine_tup (w := 602) (d := 1) (fun q hq => ?_) ?_ (Nat.le_refl _)
  · unfold cascP at hq
    obtain ⟨p, hp, rfl⟩ := List.mem_map.mp hq
    obtain ⟨w1, w2, w3, w4, w5⟩ := casc_mem s n p hp
    have b : (2 : Nat) ^ 300 > 2000000000000000000000000000000 := by decide +kernel
    refine fine_tup (w := 300) (d := 0) (fun r hr => ?_) (by show 2 * 301 ≤ 602; decide) (Nat.le_refl _)
    simp only [List.mem_cons, List.not_mem_nil, or_false] at hr
    rcases hr with rfl | rfl
    · exact fine_nat (by omega)
    · exact fine_nat (by omega)
  · unfold cascP
    rw [List.length_map]
    have := casc_len s n
    omega
theorem sum_run2 {me : EM} {env : Ev} {s n : Nat} {Q Z : D → Prop} (f : Nat → Nat → Nat) (hs : s ≤ 40) (hq : Q (.int (((casc s n).map fun p => f p.1 p.2).sum : Nat)))
    (hm : ∀ (a b : Nat) (R : D → Prop), 1 ≤ b → b ≤ 40 → b ≤ a → a ≤ n + b → bin a b ≤ n → R (.int (f a b : Nat)) → me ((env.set 4 (.sh (.int (a : Nat)))).set 5 (.sh (.int (b : Nat)))) R (fun _ => False)) :
    (cascD s n).length < 16777216 ∧ lcE (tg2 4 5) tTrue me env (cascD s n) (fun ys => match intsOf ys with
      | some is => Q (.int is.sum)
      | none => False) Z := by
  refine ⟨?_, lcE_map (fun d => D.int (f (fstD d) (sndD d) : Nat)) _ _ (fun d hd R hR => ?_) ?_⟩
  · have z := casc_len s n
    unfold cascD
    rw [List.length_map]
    omega
  · obtain ⟨p, hp, rfl⟩ := cascD_all hd
    obtain ⟨w1, w2, w3, w4, w5⟩ := casc_mem s n p hp
    exact hm p.1 p.2 R w1 (by omega) w3 w4 w5 hR
  · rw [cascD_map, ints_map]
    show Q (.int (List.sum _))
    rw [sum_cast]
    exact hq
theorem zip_falls : ∀ l : List (Nat × Nat), fallsP l → ∀ d ∈ List.zipWith (fun x y => D.tup [x, y]) (l.map fun p => D.tup [.int p.1, .int p.2]) ((l.map fun p => D.tup [.int p.1, .int p.2]).drop 1), ∃ a b x y : Nat, d = .tup [.tup [.int a, .int b], .tup [.int x, .int y]] ∧ x < a ∧ b = y + 1
  | [], _, d, hd => by cases hd
  | [p], _, d, hd => by cases hd
  | p :: q :: l, h, d, hd => by
    obtain ⟨h1, h2, h3⟩ := h
    rcases List.mem_cons.mp hd with rfl | hd
    · exact ⟨p.1, p.2, q.1, q.2, rfl, h1, h2⟩
    · exact zip_falls (q :: l) h3 d hd
theorem size_ok {n s : Nat} (h1 : n ≤ 1000000000000000000000000000000) (h2 : s ≤ 40) : n * (n + s) + n < 2 ^ 300 ∧ n * (s + 1) < 2 ^ 300 := by
  have a1 : n * (n + s) ≤ 1000000000000000000000000000000 * (1000000000000000000000000000000 + 40) := Nat.mul_le_mul h1 (by omega)
  have a2 : n * (s + 1) ≤ 1000000000000000000000000000000 * (1000000000000000000000000000000 + 40) := Nat.mul_le_mul h1 (by omega)
  have b : (2 : Nat) ^ 300 > 1000000000000000000000000000000 * (1000000000000000000000000000000 + 40) + 1000000000000000000000000000000 := by decide +kernel
  exact ⟨by omega, by omega⟩
theorem i_law_right : ∀ ds Q Z, F_law_right ds Q Z → fnW 8 2 m_law_right ds Q Z := by
  intro ds Q Z h
  unfold F_law_right at h
  split at h
  · rename_i n k
    obtain ⟨⟨h1, h2, h3, h4⟩, h5⟩ := h
    obtain ⟨N, rfl⟩ : ∃ N : Nat, n = (N : Int) := ⟨n.toNat, by omega⟩
    obtain ⟨S, rfl⟩ : ∃ S : Nat, k = (S : Int) := ⟨k.toNat, by omega⟩
    have hM : v_MOST_NUMBER = 1000000000000000000000000000000 := rfl
    have hB : v_BIG = 1606938044258990275541962092341162602522202993782792835301376 := rfl
    have s1 : 1 ≤ S := by omega
    have s2 : S ≤ 40 := by unfold v_MOST_SIZE at h4; omega
    have hlen := casc_len S N
    have hmem := casc_mem S N
    have fc := fine_casc s2 h2
    have hl2 : (cascD S N).length < 16777216 := by
      unfold cascD
      rw [List.length_map]
      omega
    refine ⟨rfl, ?_⟩
    show m_law_right [.sh (.int N), .sh (.int S), .un, .un, .un, .un, .un, .un] _
    unfold m_law_right
    show (2 : Nat) = 2 ∧ F_law_cascade [.int N, .int S] _ _
    refine ⟨rfl, F_lcasc_n h2 s1 h4 ?_⟩
    dsimp only [List.set]
    refine sSqIf_no (tOo_no (tNt_no fun P Z h => ?_) (tBo_no fun P Z h => ?_)) ?_
    · walk_at "dd"
      refine ⟨rfl, F_casc_n h2 s1 h4 ⟨rfl, ?_⟩⟩
      show F_cascade [.int N, .int S] _ _
      refine F_casc_n h2 s1 h4 ⟨Nat.le_of_ble_eq_true rfl, Nat.le_of_ble_eq_true rfl, rfl, ?_⟩
      refine F_says_same (p := .list [.tuple (cascP S N), .tuple (cascP S N)]) (w := 70000) (d := 3) ?_ ?_ (fine_lst (w := 30000) (d := 2) (fun q hq => ?_) (by show 2 * 30001 ≤ 70000; decide) (Nat.le_refl _)) (by decide) (by decide) h
      · rw [toPy, toPys, toPys, toPys, toPy_casc]
        rfl
      · rw [toPy, toPys, toPys, toPys, toPy_casc]
        rfl
      · simp only [List.mem_cons, List.not_mem_nil, or_false, or_self] at hq
        rw [hq]
        exact fc
    · walk_at "dd"
      refine sum_run2 (s := S) (n := N) (Q := fun d => dNe d (.int N) P Z) (fun a b => bin a b) s2 ?_ fun a b R b1 b2 b3 b4 b5 hR => ?_
      · rw [casc_sum S N (by omega)]
        refine dNe_ii ?_
        rw [decide_eq_true rfl]
        exact h
      · walk_at "dd"
        exact ⟨rfl, F_ch_nat (by rw [hB]; omega) (by omega) hR⟩
    · refine sSqIf_no (tOo_no (tBo_no fun P Z h => ?_) (tBo_no fun P Z h => ?_)) ?_
      · walk_at "dd"
        refine ⟨hl2, lcE_none _ _ (fun d hd R hR => ?_) ⟨Nat.le_of_ble_eq_true rfl, dNe_nil h⟩⟩
        obtain ⟨p, hp, rfl⟩ := cascD_all hd
        obtain ⟨w1, w2, w3, w4, w5⟩ := hmem p hp
        dsimp only [tg2]
        walk_at "dd"
        refine dLt_i ?_
        rw [decide_eq_false (by omega)]
        dsimp only
        rw [if_neg (by decide)]
        refine dLt_i ?_
        rw [decide_eq_false (by omega)]
        exact hR
      · walk_at "dd"
        rw [cut_one]
        refine ⟨?_, lcE_none _ _ (fun d hd R hR => ?_) ⟨Nat.le_of_ble_eq_true rfl, dNe_nil h⟩⟩
        · rw [List.length_zipWith]
          omega
        · obtain ⟨a, b, x, y, rfl, z1, z2⟩ := zip_falls _ (casc_falls S N) d hd
          dsimp only [tg2]
          walk_at "dd"
          refine dIx_t rfl (dIx_t rfl (dLe_i ?_))
          rw [decide_eq_false (by omega)]
          dsimp only
          rw [if_neg (by decide)]
          refine dIx_t rfl (dIx_t rfl (dAdd_i (dNe_ii ?_)))
          rw [decide_eq_true (by omega)]
          exact hR
      · have hr := raised_size S N (by omega)
        have hs := shadow_size S N
        have hg := grown_sum S N (by omega)
        have hp := size_ok (n := N) (s := S) (by omega) s2
        have fn : FineN 1000 1 (.list [.int (shadowN S N : Nat), .int (raisedN S N : Nat), .int (grownN S N : Nat)]) := by
          refine fine_lst (w := 300) (d := 0) (fun q hq => ?_) (by show 3 * 301 ≤ 1000; decide) (Nat.le_refl _)
          simp only [List.mem_cons, List.not_mem_nil, or_false] at hq
          rcases hq with rfl | rfl | rfl
          · exact fine_nat (by omega)
          · exact fine_nat (by omega)
          · exact fine_nat (by omega)
        show (2 : Nat) = 2 ∧ F_law_shadow [.int N, .int S] _ _
        refine ⟨rfl, F_lshadow_n h2 s1 h4 ?_⟩
        show (2 : Nat) = 2 ∧ F_law_raised [.int N, .int S] _ _
        refine ⟨rfl, F_lraised_n h2 s1 h4 ?_⟩
        show (2 : Nat) = 2 ∧ F_law_grown [.int N, .int S] _ _
        refine ⟨rfl, F_lgrown_n h2 s1 h4 ⟨Nat.le_of_ble_eq_true rfl, ?_⟩⟩
        dsimp only [List.set]
        refine sSqIf_no (tNt_no fun P Z h => ?_) ?_
        · walk_at "dd"
          refine ⟨rfl, F_shadow_n h2 s1 h4 ⟨rfl, F_raised_n h2 s1 h4 ⟨rfl, F_grown_n h2 s1 h4 ⟨Nat.le_of_ble_eq_true rfl, rfl, ?_⟩⟩⟩⟩
          exact F_says_same rfl rfl fn (by decide) (by decide) h
        · walk_at "dd"
          refine ⟨rfl, ?_⟩
          show F_shadow_many [.int N, .int S] _ _
          refine F_shadow_n h2 s1 h4 ⟨rfl, ?_⟩
          show F_raised_many [.int N, .int S] _ _
          refine F_raised_n h2 s1 h4 ⟨rfl, ?_⟩
          show F_grown [.int N, .int S] _ _
          refine F_grown_n h2 s1 h4 ⟨Nat.le_of_ble_eq_true rfl, rfl, ?_⟩
          exact F_says_same rfl rfl fn (by decide) (by decide) h5
  · exact h.elim
end K41

set_option Elab.async false
set_option linter.all false
set_option maxRecDepth 100000
set_option maxHeartbeats 4000000
namespace K41
open PySem PySem.Spec PyProof.Rows L2 DL
section
variable {P : Program} {w : World} {K : PySem.W.Frag} {mg : Str → Option Value} {base : Heap} {T : List (Addr × Str)}
def famL (y : Str) : Option (Nat × (List D → W D)) := if y = "cascade" then some (2, F_cascade) else famW y
theorem famL_ok {n : Nat} (hn : 5 ≤ n) (f0 : FnD P w K mg base T 5 "cascade" (top 18) ["number", "size"] F_cascade) (f1 : FnD P w K mg base T 5 "shadow_many" (top 19) ["number", "size"] F_shadow_many) (f2 : FnD P w K mg base T 5 "raised_many" (top 20) ["number", "size"] F_raised_many)
    (f3 : FnD P w K mg base T 5 "grown" (top 21) ["number", "size"] F_grown) : ∀ y nF, famL y = some nF → ∃ k st ps, k ≤ n ∧ ps.length = nF.1 ∧ FnD P w K mg base T k y st ps nF.2 := fun y nF e => by
  unfold famL at e
  split at e
  · rename_i h
    subst h
    cases e
    exact ⟨5, _, _, hn, rfl, f0⟩
  · exact famW_ok hn f1 f2 f3 y nF e
def m_law : SM := (sSq (sFor (tgN 2) [2, 3, 4, 5] (iRg1 (e2 dAdd (eC (.int 6)) (eA bMin2 (aCons (eA bLen (aCons (eVar 0) aNil)) (aCons (eC (.int 8)) aNil))))) (sSq (sIf (tOo (tNt (tTru (eF 2 F_law_right (aCons (eF 1 F_law_drawn_number (aCons (eVar 1) aNil)) (aCons (eF 2 F_law_pick (aCons (eVar 1) (aCons (eLst (aCons (eC (.int 1)) (aCons (eC (.int 2)) (aCons (eC (.int 3)) (aCons (e2 dAdd (eC (.int 1)) (eF 2 F_law_take (aCons (eVar 1) (aCons (eC (.int 40)) aNil)))) (aCons (eC (.int 40)) aNil)))))) aNil))) aNil))))) (tNt (tTru (eF 1 F_law_pair_right (aCons (eVar 1) aNil))))) (sRt (eC (.bl false))) sNx)
  (sFor (tgN 3) [3, 4, 5] (iOf (eLst (aCons (eC (.fn "cascade")) (aCons (eC (.fn "shadow_many")) (aCons (eC (.fn "raised_many")) (aCons (eC (.fn "grown")) aNil)))))) (sSq (sSet 4 (eCa subx (eL 3 famL (aCons (eF 1 F_law_numbers_bad (aCons (eVar 1) aNil)) (aCons (eC .non) aNil)))))
  (sSq (sSet 5 (eCa subx (eL 3 famL (aCons (eC (.int 3)) (aCons (eF 2 F_law_pick (aCons (eVar 1) (aCons (eLst (aCons (eC .non) (aCons (eC (.int 0)) (aCons (eC (.int 41)) (aCons (eC (.bl true)) (aCons (eC (.str "2")) aNil)))))) aNil))) aNil)))))
  (sIf (tOo (tNt (tTru (eA (bIsi ko ke) (aCons (eVar 4) (aCons (eC (.fn "BadNumber")) aNil))))) (tOo (tBo (e2 dNe (eXf okx "part" (eVar 4)) (eC (.str "number")))) (tOo (tNt (tTru (eA (bIsi ko ke) (aCons (eVar 5) (aCons (eC (.fn "BadNumber")) aNil))))) (tBo (e2 dNe (eXf okx "part" (eVar 5)) (eC (.str "size"))))))) (sRt (eC (.bl false))) sNx))))))
  (sRt (eAnd (e2 dEq (eF 2 F_cascade (aCons (eC (.int 7)) (aCons (eC (.int 3)) aNil))) (eTup (aCons (eTup (aCons (eC (.int 4)) (aCons (eC (.int 3)) aNil))) (aCons (eTup (aCons (eC (.int 3)) (aCons (eC (.int 2)) aNil))) aNil)))) (e2 dEq (eLst (aCons (eF 2 F_shadow_many (aCons (eC (.int 7)) (aCons (eC (.int 3)) aNil))) (aCons (eF 2 F_raised_many (aCons (eC (.int 7)) (aCons (eC (.int 3)) aNil))) (aCons (eF 2 F_grown (aCons (eC (.int 7)) (aCons (eC (.int 3)) aNil))) aNil)))) (eLst (aCons (eC (.int 9)) (aCons (eC (.int 2)) (aCons (eC (.int 9)) aNil))))))))
theorem k_law {cA PA : Addr} (V : Vx P w K mg base T) (f_cascade : FnD P w K mg base T 5 "cascade" (top 18) ["number", "size"] F_cascade) (f_shadow_many : FnD P w K mg base T 5 "shadow_many" (top 19) ["number", "size"] F_shadow_many) (f_raised_many : FnD P w K mg base T 5 "raised_many" (top 20) ["number", "size"] F_raised_many) (f_grown : FnD P w K mg base T 5 "grown" (top 21) ["number", "size"] F_grown) (f_law_take : FnD P w K mg base T 2 "_law_take" (top 25) ["draw", "amount"] F_law_take) (f_law_pick : FnD P w K mg base T 3 "_law_pick" (top 26) ["draw", "some"] F_law_pick) (f_law_numbers_bad : FnD P w K mg base T 4 "_law_numbers_bad" (top 35) ["draw"] F_law_numbers_bad) (f_law_drawn_number : FnD P w K mg base T 4 "_law_drawn_number" (top 36) ["draw"] F_law_drawn_number) (f_law_right : FnD P w K mg base T 6 "_law_right" (top 37) ["number", "size"] F_law_right) (f_law_pair_right : FnD P w K mg base T 6 "_law_pair_right" (top 38) ["draw"] F_law_pair_right) (CA : Cau K mg base T (top 27) cA PA "law.<locals>.<lambda>" subx) : ∀ (f : Addr) (A : Around) (outer : List Env) (s : Shared) (H : Hp) (E : XK) (g : Gd) (B : Hp × Hp), CxK T 9 (cxOf (L2.CX P w) P w K mg base ["script", "draw", "turn", "work", "error", "other"] "law" (defScope (top 39)) f (.ref cA) A outer s H E) g E → DSs (cxOf (L2.CX P w) P w K mg base ["script", "draw", "turn", "work", "error", "other"] "law" (defScope (top 39)) f (.ref cA) A outer s H E) g B E (defBody (top 39)).tail m_law := by
  intro f A outer s H E g B c
  unfold m_law
  refine dss_cons ?_ ?_
  refine ds_for (kl := [2, 3, 4, 5]) (passes_of rfl) c.calm ?_ (pg_name (i := 2) sc_law.nd rfl (.inl rfl)) (tgN_ok 2) ?_
  refine di_rg1 (by rfl) V.b_range ?_
  refine de_add ?_ ?_
  exact de_int
  refine db_min c V.b_min (by rfl) ?_
  refine da_cons ?_ ?_
  refine db_len V.b_len (by rfl) ?_
  refine da_cons ?_ ?_
  exact de_var (i := 0)
  exact da_nil
  refine da_cons ?_ ?_
  exact de_int
  exact da_nil
  refine dss_cons ?_ ?_
  refine ds_if ?_ ?_ ?_
  refine dw_t ?_
  refine dw_or ?_ ?_
  refine dt_not ?_
  refine dt_tru ?_
  refine de_call f_law_right c (by decide) (by rfl) ?_
  refine da_cons ?_ ?_
  refine de_call f_law_drawn_number c (by decide) (by rfl) ?_
  refine da_cons ?_ ?_
  exact de_var (i := 1)
  exact da_nil
  refine da_cons ?_ ?_
  refine de_call f_law_pick c (by decide) (by rfl) ?_
  refine da_cons ?_ ?_
  exact de_var (i := 1)
  refine da_cons ?_ ?_
  refine de_lst ?_
  refine da_cons ?_ ?_
  exact de_int
  refine da_cons ?_ ?_
  exact de_int
  refine da_cons ?_ ?_
  exact de_int
  refine da_cons ?_ ?_
  refine de_add ?_ ?_
  exact de_int
  refine de_call f_law_take c (by decide) (by rfl) ?_
  refine da_cons ?_ ?_
  exact de_var (i := 1)
  refine da_cons ?_ ?_
  exact de_int
  exact da_nil
  refine da_cons ?_ ?_
  exact de_int
  exact da_nil
  exact da_nil
  exact da_nil
  refine dw_or1 ?_
  refine dt_not ?_
  refine dt_tru ?_
  refine de_call f_law_pair_right c (by decide) (by rfl) ?_
  refine da_cons ?_ ?_
  exact de_var (i := 1)
  exact da_nil
  refine dss_one ?_
  refine ds_rt ?_
  exact de_bl
  exact dss_nil
  refine dss_one ?_
  refine ds_for (kl := [3, 4, 5]) (passes_of rfl) c.calm ?_ (pg_name (i := 3) sc_law.nd rfl (.inr rfl)) (tgN_ok 3) ?_
  refine di_of ?_
  refine de_lst ?_
  refine da_cons ?_ ?_
  exact dv_fn V.d_cascade (by rfl)
  refine da_cons ?_ ?_
  exact dv_fn V.d_shadow_many (by rfl)
  refine da_cons ?_ ?_
  exact dv_fn V.d_raised_many (by rfl)
  refine da_cons ?_ ?_
  exact dv_fn V.d_grown (by rfl)
  exact da_nil
  refine dss_cons ?_ ?_
  refine ds_set (i := 4) sc_law.nd ?_
  refine de_cau CA c (by rfl) (by rfl) (show LamX.LamS (defScope (top 39)) _ from LamX.lamS_by (by decide +kernel)) rfl (fun _ _ _ _ _ => rfl) ?_
  intro A outer s H E2 f c2 B2 cl
  refine de_callL (i := 3) (Fm := famL) (famL_ok (by decide) f_cascade f_shadow_many f_raised_many f_grown) cl ?_
  refine da_cons ?_ ?_
  refine de_call f_law_numbers_bad cl (by decide) (by rfl) ?_
  refine da_cons ?_ ?_
  exact de_var (i := 1)
  exact da_nil
  refine da_cons ?_ ?_
  exact de_non
  exact da_nil
  refine dss_cons ?_ ?_
  refine ds_set (i := 5) sc_law.nd ?_
  refine de_cau CA c (by rfl) (by rfl) (show LamX.LamS (defScope (top 39)) _ from LamX.lamS_by (by decide +kernel)) rfl (fun _ _ _ _ _ => rfl) ?_
  intro A outer s H E2 f c2 B2 cl
  refine de_callL (i := 3) (Fm := famL) (famL_ok (by decide) f_cascade f_shadow_many f_raised_many f_grown) cl ?_
  refine da_cons ?_ ?_
  exact de_int
  refine da_cons ?_ ?_
  refine de_call f_law_pick cl (by decide) (by rfl) ?_
  refine da_cons ?_ ?_
  exact de_var (i := 1)
  refine da_cons ?_ ?_
  refine de_lst ?_
  refine da_cons ?_ ?_
  exact de_non
  refine da_cons ?_ ?_
  exact de_int
  refine da_cons ?_ ?_
  exact de_int
  refine da_cons ?_ ?_
  exact de_bl
  refine da_cons ?_ ?_
  exact de_str
  exact da_nil
  exact da_nil
  exact da_nil
  refine dss_one ?_
  refine ds_if ?_ ?_ ?_
  refine dw_t ?_
  refine dw_or ?_ ?_
  refine dt_not ?_
  refine dt_tru ?_
  refine db_isi (bisi_ok V.ko V.ke) V.b_isinstance (by rfl) ?_
  refine da_cons ?_ ?_
  exact de_var (i := 4)
  refine da_cons ?_ ?_
  exact dv_cls V.c_BadNumber.choose_spec.1 (by rfl)
  exact da_nil
  refine dw_or ?_ ?_
  refine dt_ne c ?_ ?_
  refine de_xf V.okx ?_
  exact de_var (i := 4)
  exact de_str
  refine dw_or ?_ ?_
  refine dt_not ?_
  refine dt_tru ?_
  refine db_isi (bisi_ok V.ko V.ke) V.b_isinstance (by rfl) ?_
  refine da_cons ?_ ?_
  exact de_var (i := 5)
  refine da_cons ?_ ?_
  exact dv_cls V.c_BadNumber.choose_spec.1 (by rfl)
  exact da_nil
  refine dw_or1 ?_
  refine dt_ne c ?_ ?_
  refine de_xf V.okx ?_
  exact de_var (i := 5)
  exact de_str
  refine dss_one ?_
  refine ds_rt ?_
  exact de_bl
  exact dss_nil
  refine dss_one ?_
  refine ds_rt ?_
  refine de_and ?_ ?_
  refine dc_eq c ?_ ?_
  refine de_call f_cascade c (by decide) (by rfl) ?_
  refine da_cons ?_ ?_
  exact de_int
  refine da_cons ?_ ?_
  exact de_int
  exact da_nil
  refine de_tup ?_
  refine da_cons ?_ ?_
  refine de_tup ?_
  refine da_cons ?_ ?_
  exact de_int
  refine da_cons ?_ ?_
  exact de_int
  exact da_nil
  refine da_cons ?_ ?_
  refine de_tup ?_
  refine da_cons ?_ ?_
  exact de_int
  refine da_cons ?_ ?_
  exact de_int
  exact da_nil
  exact da_nil
  refine de_one ?_
  refine dc_eq c ?_ ?_
  refine de_lst ?_
  refine da_cons ?_ ?_
  refine de_call f_shadow_many c (by decide) (by rfl) ?_
  refine da_cons ?_ ?_
  exact de_int
  refine da_cons ?_ ?_
  exact de_int
  exact da_nil
  refine da_cons ?_ ?_
  refine de_call f_raised_many c (by decide) (by rfl) ?_
  refine da_cons ?_ ?_
  exact de_int
  refine da_cons ?_ ?_
  exact de_int
  exact da_nil
  refine da_cons ?_ ?_
  refine de_call f_grown c (by decide) (by rfl) ?_
  refine da_cons ?_ ?_
  exact de_int
  refine da_cons ?_ ?_
  exact de_int
  exact da_nil
  exact da_nil
  refine de_lst ?_
  refine da_cons ?_ ?_
  exact de_int
  refine da_cons ?_ ?_
  exact de_int
  refine da_cons ?_ ?_
  exact de_int
  exact da_nil
abbrev bg_st : Stmt := (defBody (top 23)).headD (.Pass ⟨0, 0, 0, 0⟩)
abbrev bg_ex : Expr := retDict 2 ((defBody (top 23)).getD 1 (.Pass ⟨0, 0, 0, 0⟩))
theorem k_law_begun1 (V : Vx P w K mg base T) : ∀ (f : Addr) (cdv : Value) (A : Around) (outer : List Env) (s : Shared) (H : Hp) (E : XK) (g : Gd) (B : Hp × Hp), CxK T 1 (cxOf (L2.CX P w) P w K mg base ["script", "large", "grain"] "_law_begun" (defScope (top 23)) f cdv A outer s H E) g E → DS (cxOf (L2.CX P w) P w K mg base ["script", "large", "grain"] "_law_begun" (defScope (top 23)) f cdv A outer s H E) g B E bg_st m_bg1 := by
  intro f cdv A outer s H E g B c
  refine ds_lco (i := 1) c.calm sc_law_begun.nd ?_ (blkOk_by (N := ["script", "large", "grain"]) (sc := defScope (top 23)) (own := [("grain", 2)]) (by decide +kernel)) (fun _ _ _ _ _ => (pg_name (i := 2) sc_law_begun.nd rfl (.inl rfl))) (tgN_ok 2) (by decide) (fun _ _ _ _ _ _ => ?_) (fun _ _ _ _ _ _ => ?_) (sw_true rfl rfl rfl (by decide +kernel))
  refine di_of ?_
  exact de_var (i := 0)
  refine dts_one ?_
  refine dt_ge ?_ ?_
  refine db_abs V.b_abs (by rfl) ?_
  refine da_cons ?_ ?_
  exact de_var (i := 2)
  exact da_nil
  refine de_pow ?_ ?_
  exact de_int
  exact de_int
  refine de_sub ?_ ?_
  refine db_abs V.b_abs (by rfl) ?_
  refine da_cons ?_ ?_
  exact de_var (i := 2)
  exact da_nil
  refine de_pow ?_ ?_
  exact de_int
  exact de_int
theorem k_law_begun3 (V : Vx P w K mg base T) : ∀ (f : Addr) (cdv : Value) (A : Around) (outer : List Env) (s : Shared) (H : Hp) (E : XK) (g : Gd) (B : Hp × Hp), CxK T 1 (cxOf (L2.CX P w) P w K mg base ["script", "large", "grain"] "_law_begun" (defScope (top 23)) f cdv A outer s H E) g E → DE (cxOf (L2.CX P w) P w K mg base ["script", "large", "grain"] "_law_begun" (defScope (top 23)) f cdv A outer s H E) g B E bg_ex m_bg3 := by
  intro f cdv A outer s H E g B c
  refine de_lc c.calm sc_law_begun.nd ?_ (blkOk_by (N := ["script", "large", "grain"]) (sc := defScope (top 23)) (own := [("grain", 2)]) (by decide +kernel)) (fun _ _ _ _ _ => (pg_name (i := 2) sc_law_begun.nd rfl (.inl rfl))) (tgN_ok 2) (by decide) (fun _ _ _ _ _ _ => ?_) (fun _ _ _ _ _ _ => ?_)
  refine di_of ?_
  exact de_var (i := 0)
  exact dts_nil
  refine db_abs V.b_abs (by rfl) ?_
  refine da_cons ?_ ?_
  exact de_var (i := 2)
  exact da_nil
end
end K41

set_option Elab.async false
set_option linter.all false
set_option maxRecDepth 100000
set_option maxHeartbeats 4000000
namespace K41
open PySem PySem.Spec PyProof.Rows L2 DL
local macro_rules | `(tactic| walk_at "dd") => `(tactic| dsimp only [sSq, sRt, sRn, sDr, sSet, sPr, sTg, sIf, sBk, sCt, sNil, sApp, sFz, sNx, eVar, eC, e1, e2, eIf, aNil, aCons, eA, tNt, tAn, tOo, eAnd, eOr, eNot, eTup, eLst, tBo, eLc, eSl, oNo, oSo, eF, tTrue, iOf, iZp, iRg1, iRg2, List.set, List.getElem?_cons_zero, List.getElem?_cons_succ, List.map, List.replicate, List.append, List.cons_append, List.nil_append, fnW, noOwn, blkE, kilE, bTup, bSum, bMin2, bMax2, bLen, List.getD_cons_zero, List.getD_cons_succ])
def bads : List D := [D.non, .int (-1), .bl true, .str "5", .int (10 ^ 30 + 1), .tup [.int 3], .lst []]
theorem bads_ok : ∀ d ∈ bads, tyN d ≠ none ∧ good d 0 v_MOST_NUMBER = false := by
  intro d hd
  have z : ¬ ((0 : Int) ≤ 10 ^ 30 + 1 ∧ (10 : Int) ^ 30 + 1 ≤ v_MOST_NUMBER) := by decide +kernel
  simp only [bads, List.mem_cons, List.not_mem_nil, or_false] at hd
  rcases hd with rfl | rfl | rfl | rfl | rfl | rfl | rfl
  · exact ⟨nofun, rfl⟩
  · exact ⟨nofun, by decide⟩
  · exact ⟨nofun, rfl⟩
  · exact ⟨nofun, rfl⟩
  · exact ⟨nofun, decide_eq_false z⟩
  · exact ⟨nofun, rfl⟩
  · exact ⟨nofun, rfl⟩
def odds : List D := [D.non, .int 0, .int 41, .bl true, .str "2"]
theorem odds_ok : ∀ d ∈ odds, tyN d ≠ none ∧ good d 1 v_MOST_SIZE = false := by
  intro d hd
  simp only [odds, List.mem_cons, List.not_mem_nil, or_false] at hd
  rcases hd with rfl | rfl | rfl | rfl | rfl
  · exact ⟨nofun, rfl⟩
  · exact ⟨nofun, by decide⟩
  · exact ⟨nofun, by decide⟩
  · exact ⟨nofun, rfl⟩
  · exact ⟨nofun, rfl⟩
theorem need_number {a b : D} {p : W D} {P Z : D → Prop} (h1 : tyN a ≠ none) (h2 : good a 0 v_MOST_NUMBER = false) (h : Z (.exc "BadNumber" ["part"] [.str "number"])) : need a b p P Z := by
  unfold need
  rw [h2]
  exact ⟨⟨h1, fun z => by cases z⟩, h⟩
theorem need_size {b : D} {p : W D} {P Z : D → Prop} (h1 : tyN b ≠ none) (h2 : good b 1 v_MOST_SIZE = false) (h : Z (.exc "BadNumber" ["part"] [.str "size"])) : need (.int 3) b p P Z := by
  have g1 : good (.int 3) 0 v_MOST_NUMBER = true := by decide +kernel
  unfold need
  rw [g1, h2]
  exact ⟨⟨nofun, fun _ => h1⟩, h⟩
def works : List D := [.fn "cascade", .fn "shadow_many", .fn "raised_many", .fn "grown"]
/-- each of the four refuses -/
theorem works_ok : ∀ d ∈ works, ∃ y F, d = .fn y ∧ famL y = some (2, F) ∧ (∀ a b P Z, tyN a ≠ none → good a 0 v_MOST_NUMBER = false → Z (.exc "BadNumber" ["part"] [.str "number"]) → F [a, b] P Z) ∧
    ∀ b P Z, tyN b ≠ none → good b 1 v_MOST_SIZE = false → Z (.exc "BadNumber" ["part"] [.str "size"]) → F [.int 3, b] P Z := by
  intro d hd
  simp only [works, List.mem_cons, List.not_mem_nil, or_false] at hd
  rcases hd with rfl | rfl | rfl | rfl
  · exact ⟨_, F_cascade, rfl, rfl, fun a b P Z h1 h2 h => by unfold F_cascade; exact need_number h1 h2 h, fun b P Z h1 h2 h => by unfold F_cascade; exact need_size h1 h2 h⟩
  · exact ⟨_, F_shadow_many, rfl, rfl, fun a b P Z h1 h2 h => by unfold F_shadow_many; exact need_number h1 h2 h, fun b P Z h1 h2 h => by unfold F_shadow_many; exact need_size h1 h2 h⟩
  · exact ⟨_, F_raised_many, rfl, rfl, fun a b P Z h1 h2 h => by unfold F_raised_many; exact need_number h1 h2 h, fun b P Z h1 h2 h => by unfold F_raised_many; exact need_size h1 h2 h⟩
  · exact ⟨_, F_grown, rfl, rfl, fun a b P Z h1 h2 h => by unfold F_grown; exact need_number h1 h2 h, fun b P Z h1 h2 h => by unfold F_grown; exact need_size h1 h2 h⟩
theorem sSqFor_i {T : D → Ev → Option Ev} {kl : List Nat} {mi : Ev → W (List D)} {b r : SM} {env : Ev} {k : KS} (h : mi env (fun xs => forS T kl b xs env { k with nx := fun e => r e k }) k.er) : sSq (sFor T kl mi b) r env k := h
theorem sFor_i {T : D → Ev → Option Ev} {kl : List Nat} {mi : Ev → W (List D)} {b : SM} {env : Ev} {k : KS} (h : mi env (fun xs => forS T kl b xs env k) k.er) : sFor T kl mi b env k := h
theorem sIf_no2 {c : Ev → W Bool} {a : SM} {env : Ev} {k : KS} (hc : ∀ (P : Bool → Prop) (Z : D → Prop), P false → c env P Z) (h : k.nx env) : sIf c a sNx env k := hc _ _ (by rw [if_neg (by decide)]; exact h)
theorem sSqSet_i {i : Nat} {a : EM} {r : SM} {env : Ev} {k : KS} (h : a env (fun d => r (env.set i (.sh d)) k) k.er) : sSq (sSet i a) r env k := h
theorem eCa_x {sub : Str → Bool} {mb : EM} {env : Ev} {P Z : D → Prop} {cx : Str} {ns : List Str} {ds : List D} (hs : sub cx = true) (hp : P (.exc cx ns ds)) (h : ∀ Z2 : D → Prop, Z2 (.exc cx ns ds) → ∀ P2 : D → Prop, mb (env.map noOwn) P2 Z2) : eCa sub mb env P Z := h _ ⟨hs, hp⟩ _
theorem dNe_sm {x : Str} {P Z : D → Prop} (h : P (.bl false)) : dNe (.str x) (.str x) P Z := by
  have e : (!decide (x = x)) = false := by simp
  show P (.bl (!decide (x = x)))
  rw [e]
  exact h
theorem dEq_t {l : List D} {b : D} {p q : PyData} {P Z : D → Prop} (e1 : toPy (.tup l) = some p) (e2 : toPy b = some q) (s1 : SeqAt.shaped p = true) (s2 : SeqAt.shaped q = true) (e : PyData.eqv p q = true) (h : P (.bl true)) : dEq (.tup l) b P Z := by
  unfold dEq
  split
  · rename_i z1
    cases z1
  · rw [e1, e2]
    dsimp only
    rw [e]
    exact ⟨⟨s1, s2⟩, h⟩
theorem dEq_l {l : List D} {b : D} {p q : PyData} {P Z : D → Prop} (e1 : toPy (.lst l) = some p) (e2 : toPy b = some q) (s1 : SeqAt.shaped p = true) (s2 : SeqAt.shaped q = true) (e : PyData.eqv p q = true) (h : P (.bl true)) : dEq (.lst l) b P Z := by
  unfold dEq
  split
  · rename_i z1
    cases z1
  · rw [e1, e2]
    dsimp only
    rw [e]
    exact ⟨⟨s1, s2⟩, h⟩
theorem casc37 : cascD 3 7 = [.tup [.int 4, .int 3], .tup [.int 3, .int 2]] := by
  have e : casc 3 7 = [(4, 3), (3, 2)] := by decide +kernel
  unfold cascD
  rw [e]
  rfl
set_option simprocs false
theorem i_law (l : List Int) (hl : l.length ≤ 63) : m_law [.sh (.scr l), .sh .drw, .un, .un, .un, .un] { nx := fun _ => False, rt := fun d => d = .bl true } := by
  unfold m_law
  have it : ∀ (P : List D → Prop) (Z : D → Prop), (∀ n : Nat, P (rgD 0 n)) → iRg1 (e2 dAdd (eC (.int 6)) (eA bMin2 (aCons (eA bLen (aCons (eVar 0) aNil)) (aCons (eC (.int 8)) aNil)))) [.sh (.scr l), .sh .drw, .un, .un, .un, .un] P Z := fun P Z h => by
    walk_at "dd"
    refine dAdd_i ⟨?_, h _⟩
    split <;> omega
  refine sSqFor_i (it _ _ fun n => ?_)
  refine forS_ind (fun ds e => e = [.sh (.scr l), .sh .drw, .un, .un, .un, .un]) (fun e he => ?_) (fun d ds e F he hF => ?_) _ _ rfl
  · subst he
    walk_at "dd"
    refine ⟨rfl, ?_⟩
    have h7 : ((7 : Nat) : Int) ≤ v_MOST_NUMBER := by decide +kernel
    have h3 : ((3 : Nat) : Int) ≤ v_MOST_SIZE := by decide +kernel
    refine F_casc_n (n := 7) (k := 3) h7 (by decide) h3 ⟨Nat.le_of_ble_eq_true rfl, Nat.le_of_ble_eq_true rfl, Nat.le_of_ble_eq_true rfl, ?_⟩
    rw [casc37]
    refine dEq_t rfl rfl (by decide) (by decide) (by decide) ?_
    dsimp only [tru]
    rw [if_pos rfl]
    refine ⟨rfl, F_shadow_n (n := 7) (k := 3) h7 (by decide) h3 ⟨rfl, F_raised_n (n := 7) (k := 3) h7 (by decide) h3 ⟨rfl, F_grown_n (n := 7) (k := 3) h7 (by decide) h3 ⟨Nat.le_of_ble_eq_true rfl, Nat.le_of_ble_eq_true rfl, ?_⟩⟩⟩⟩
    have e1 : shadowN 3 7 = 9 := by decide +kernel
    have e2 : raisedN 3 7 = 2 := by decide +kernel
    have e3 : grownN 3 7 = 9 := by decide +kernel
    rw [e1, e2, e3]
    exact dEq_l rfl rfl (by decide) (by decide) (by decide) rfl
  · subst he
    dsimp only [tgN, List.set]
    refine sSqIf_no (tOo_no (tNt_no fun P Z h => ?_) (tNt_no fun P Z h => ?_)) ?_
    · walk_at "dd"
      refine ⟨rfl, F_draw_n fun N hN => ⟨rfl, F_take_n (by decide) (by decide) fun k k1 k2 => dAdd_i ⟨Nat.le_of_ble_eq_true rfl, rfl, F_pick_l (Nat.le_of_ble_eq_true rfl) (Nat.le_of_ble_eq_true rfl) fun d hd => ?_⟩⟩⟩
      obtain ⟨z, rfl, z1, z2⟩ : ∃ z : Int, d = .int z ∧ 1 ≤ z ∧ z ≤ v_MOST_SIZE := by
        simp only [List.mem_cons, List.not_mem_nil, or_false] at hd
        unfold v_MOST_SIZE
        rcases hd with rfl | rfl | rfl | rfl | rfl
        · exact ⟨_, rfl, by decide, by decide⟩
        · exact ⟨_, rfl, by decide, by decide⟩
        · exact ⟨_, rfl, by decide, by decide⟩
        · exact ⟨_, rfl, by omega, by omega⟩
        · exact ⟨_, rfl, by decide, by decide⟩
      exact ⟨rfl, ⟨by omega, hN, z1, z2⟩, h⟩
    · walk_at "dd"
      exact ⟨rfl, h⟩
    · refine sFor_i ?_
      show ([_, _, _, _] : List D).length ≤ 16777216 ∧ forS _ _ _ works _ _
      refine ⟨Nat.le_of_ble_eq_true rfl, ?_⟩
      refine forS_ind (fun ds e => (∀ d ∈ ds, d ∈ works) ∧ e = [.sh (.scr l), .sh .drw, .sh d, .un, .un, .un]) (fun e he => ?_) (fun w ws e G he hG => ?_) _ _ ⟨fun d h => h, rfl⟩
      · obtain ⟨_, rfl⟩ := he
        exact hF _ rfl
      · obtain ⟨hw, rfl⟩ := he
        obtain ⟨y, W1, rfl, hy, n1, n2⟩ := works_ok w (hw w List.mem_cons_self)
        have hG2 := hG _ ⟨fun d' h' => hw d' (List.mem_cons_of_mem _ h'), rfl⟩
        dsimp only [tgN, List.set]
        refine sSqSet_i (eCa_x (cx := "BadNumber") (ns := ["part"]) (ds := [.str "number"]) rfl ?_ fun Z2 hz P2 => eL_i rfl hy ?_)
        · refine sSqSet_i (eCa_x (cx := "BadNumber") (ns := ["part"]) (ds := [.str "size"]) rfl ?_ fun Z2 hz P2 => eL_i rfl hy ?_)
          · dsimp only [List.set]
            refine sIf_no2 (tOo_no (tNt_no fun P Z h => ?_) (tOo_no (tBo_no fun P Z h => ?_) (tOo_no (tNt_no fun P Z h => ?_) (tBo_no fun P Z h => ?_)))) ?_
            · exact h
            · exact ⟨rfl, dNe_sm (Z := Z) h⟩
            · exact h
            · exact ⟨rfl, dNe_sm (Z := Z) h⟩
            · exact hG2
          · walk_at "dd"
            refine ⟨Nat.le_of_ble_eq_true rfl, rfl, F_pick_l (Nat.le_of_ble_eq_true rfl) (Nat.le_of_ble_eq_true rfl) fun d hd => ⟨rfl, ?_⟩⟩
            obtain ⟨o1, o2⟩ := odds_ok d hd
            exact n2 _ _ _ o1 o2 hz
        · walk_at "dd"
          refine ⟨rfl, fun d hd => ⟨rfl, ?_⟩⟩
          obtain ⟨o1, o2⟩ := bads_ok d hd
          exact n1 _ _ _ _ o1 o2 hz
end K41

set_option Elab.async false
set_option linter.all false
set_option maxRecDepth 100000
set_option maxHeartbeats 0
namespace K41
open PySem PySem.Spec PyProof.Rows L2 DL
abbrev R : PySem.W.OpenLaw := PySem.Challenge.rw_lotsclosed_k41_whole_cascades
def fileS : Str := (R.prog.main.file : Str)
def fx : List Fx := [.fa (.glo "is_number"),
  .fa (.keep "is_number"),
  .fa (.code ("is_number", none) "is_number"),
  .fa (.glo "is_between"),
  .fa (.keep "is_between"),
  .fa (.code ("is_between", none) "is_between"),
  .fa (.glo "need_between"),
  .fa (.keep "need_between"),
  .fa (.code ("need_between", none) "need_between"),
  .fa (.glo "choices_many"),
  .fa (.keep "choices_many"),
  .fa (.code ("choices_many", none) "choices_many"),
  .fa (.glo "greatest_points"),
  .fa (.keep "greatest_points"),
  .fa (.code ("greatest_points", none) "greatest_points"),
  .fa (.glo "cascade_told"),
  .fa (.keep "cascade_told"),
  .fa (.code ("cascade_told", none) "cascade_told"),
  .fa (.glo "shadow_told"),
  .fa (.keep "shadow_told"),
  .fa (.code ("shadow_told", none) "shadow_told"),
  .fa (.glo "raised_told"),
  .fa (.keep "raised_told"),
  .fa (.code ("raised_told", none) "raised_told"),
  .fa (.glo "grown_told"),
  .fa (.keep "grown_told"),
  .fa (.code ("grown_told", none) "grown_told"),
  .fa (.glo "need_both"),
  .fa (.keep "need_both"),
  .fa (.code ("need_both", none) "need_both"),
  .fa (.glo "cascade"),
  .fa (.keep "cascade"),
  .fa (.code ("cascade", none) "cascade"),
  .fa (.glo "shadow_many"),
  .fa (.keep "shadow_many"),
  .fa (.code ("shadow_many", none) "shadow_many"),
  .fa (.glo "raised_many"),
  .fa (.keep "raised_many"),
  .fa (.code ("raised_many", none) "raised_many"),
  .fa (.glo "grown"),
  .fa (.keep "grown"),
  .fa (.code ("grown", none) "grown"),
  .fa (.glo "_law_begun"),
  .fa (.keep "_law_begun"),
  .fa (.code ("_law_begun", none) "_law_begun"),
  .fa (.glo "_law_mixed"),
  .fa (.keep "_law_mixed"),
  .fa (.code ("_law_mixed", none) "_law_mixed"),
  .fa (.glo "_law_take"),
  .fa (.keep "_law_take"),
  .fa (.code ("_law_take", none) "_law_take"),
  .fa (.glo "_law_pick"),
  .fa (.keep "_law_pick"),
  .fa (.code ("_law_pick", none) "_law_pick"),
  .fa (.glo "_law_caught"),
  .fa (.keep "_law_caught"),
  .fa (.code ("_law_caught", none) "_law_caught"),
  .fa (.glo "_law_says"),
  .fa (.keep "_law_says"),
  .fa (.code ("_law_says", none) "_law_says"),
  .fa (.glo "_law_ten"),
  .fa (.keep "_law_ten"),
  .fa (.code ("_law_ten", none) "_law_ten"),
  .fa (.glo "_law_choose"),
  .fa (.keep "_law_choose"),
  .fa (.code ("_law_choose", none) "_law_choose"),
  .fa (.glo "_law_cascade"),
  .fa (.keep "_law_cascade"),
  .fa (.code ("_law_cascade", none) "_law_cascade"),
  .fa (.glo "_law_shadow"),
  .fa (.keep "_law_shadow"),
  .fa (.code ("_law_shadow", none) "_law_shadow"),
  .fa (.glo "_law_raised"),
  .fa (.keep "_law_raised"),
  .fa (.code ("_law_raised", none) "_law_raised"),
  .fa (.glo "_law_grown"),
  .fa (.keep "_law_grown"),
  .fa (.code ("_law_grown", none) "_law_grown"),
  .fa (.glo "_law_numbers_bad"),
  .fa (.keep "_law_numbers_bad"),
  .fa (.code ("_law_numbers_bad", none) "_law_numbers_bad"),
  .fa (.glo "_law_drawn_number"),
  .fa (.keep "_law_drawn_number"),
  .fa (.code ("_law_drawn_number", none) "_law_drawn_number"),
  .fa (.glo "_law_right"),
  .fa (.keep "_law_right"),
  .fa (.code ("_law_right", none) "_law_right"),
  .fa (.glo "_law_pair_right"),
  .fa (.keep "_law_pair_right"),
  .fa (.code ("_law_pair_right", none) "_law_pair_right"),
  .fa (.glo "law"),
  .fa (.keep "law"),
  .fa (.code ("law", none) "law"),
  .fa (.free "abs"),
  .fa (.free "bool"),
  .fa (.free "int"),
  .fa (.free "isinstance"),
  .fa (.free "len"),
  .fa (.free "max"),
  .fa (.free "min"),
  .fa (.free "range"),
  .fa (.free "repr"),
  .fa (.free "sum"),
  .fa (.free "super"),
  .fa (.free "tuple"),
  .fa (.free "zip"),
  .fa (.int "MOST_NUMBER" v_MOST_NUMBER),
  .fa (.int "MOST_SIZE" v_MOST_SIZE),
  .bi "comb" "math.comb",
  .fa (.glo "LotError"),
  .fa (.glo "BadNumber"),
  .sup fileS "BadNumber" "part" "part",
  .xck "BadNumber",
  .nof "BadNumber" "part",
  .exm "BadNumber" "LotError" true,
  .kit "NoneType" "BadNumber" false,
  .kit "int" "BadNumber" false,
  .kit "tuple" "BadNumber" false,
  .kie "BadNumber" "BadNumber" true]
def fn : List He.FnD := [defFn "is_number" (top 5), defFn "is_between" (top 6), defFn "need_between" (top 7), defFn "choices_many" (top 11), defFn "greatest_points" (top 12), defFn "cascade_told" (top 13), defFn "shadow_told" (top 14), defFn "raised_told" (top 15), defFn "grown_told" (top 16), defFn "need_both" (top 17), defFn "cascade" (top 18), defFn "shadow_many" (top 19), defFn "raised_many" (top 20), defFn "grown" (top 21), defFn "_law_begun" (top 23), defFn "_law_mixed" (top 24), defFn "_law_take" (top 25), defFn "_law_pick" (top 26), defFn "_law_caught" (top 27), defFn "_law_says" (top 28), defFn "_law_ten" (top 29), defFn "_law_choose" (top 30), defFn "_law_cascade" (top 31), defFn "_law_shadow" (top 32), defFn "_law_raised" (top 33), defFn "_law_grown" (top 34), defFn "_law_numbers_bad" (top 35), defFn "_law_drawn_number" (top 36), defFn "_law_right" (top 37), defFn "_law_pair_right" (top 38), defFn "law" (top 39)]
def tf : List He.Defn := [("law", none)]
def loose0 : List Str := ["is_number", "is_between", "need_between", "choices_many", "greatest_points", "cascade_told", "shadow_told", "raised_told", "grown_told", "need_both", "cascade", "shadow_many", "raised_many", "grown", "_law_begun", "_law_mixed", "_law_take", "_law_pick", "_law_caught", "_law_says", "_law_ten", "_law_choose", "_law_cascade", "_law_shadow", "_law_raised", "_law_grown", "_law_numbers_bad", "_law_drawn_number", "_law_right", "_law_pair_right"]
def loose1 : List Str := ["LotError", "BadNumber", "MOST_NUMBER", "MOST_SIZE"]
def loose : List Str := loose0 ++ loose1
def ob (s : PySem.W.SharedT) : AlL := obsL 5 fx fn tf (HandSHeadRun.getT s)
theorem ob_eq (s : PySem.W.SharedT) : ob s = (hookL 5 fx fn tf).obs s.abs := obsL_eq (HandSHeadRun.getT_eq s)

theorem run (w : World) : HandSHeadRun.RunEqI (PySem.W.OpenLaw.row R) (PySem.W.view R.prog [0, 39]) (hookL 5 fx fn tf) ob 20000 loose w := by
  unfold HandSHeadRun.RunEqI
  kernel_rfl
end K41

set_option Elab.async false
set_option linter.all false
set_option maxRecDepth 100000
set_option maxHeartbeats 4000000
namespace K41
open PySem PySem.Spec PyProof.Rows L2 DL
section
variable {K : PySem.W.Frag} {h : Heap} {mg : Str → Option Value} {w : World} {base : Heap} {T : List (Addr × Str)}
theorem cls_at (X : K.In h) (G : h.Ns mainGlobals mg) (c : SaysL fx fn tf h K) {x : Str} {C : Addr} (i : Nat) (e : fx[i]? = some (.fa (.glo x))) (hm : mg x = some (.ref C)) : C = He.ga K x := by
  have z : (He.Fa.glo x).ok K = true := c.fact i e
  have z2 := He.glo_ok X G z
  rw [hm] at z2
  injection (Option.some.inj z2)
theorem vx (X : K.In h) (G : h.Ns mainGlobals mg) (c : SaysL fx fn tf h K) : Vx R.prog w K mg base T where
  b_abs := He.free_ok X G (c.fact 93 rfl)
  b_bool := He.free_ok X G (c.fact 94 rfl)
  b_int := He.free_ok X G (c.fact 95 rfl)
  b_isinstance := He.free_ok X G (c.fact 96 rfl)
  b_len := He.free_ok X G (c.fact 97 rfl)
  b_max := He.free_ok X G (c.fact 98 rfl)
  b_min := He.free_ok X G (c.fact 99 rfl)
  b_range := He.free_ok X G (c.fact 100 rfl)
  b_repr := He.free_ok X G (c.fact 101 rfl)
  b_sum := He.free_ok X G (c.fact 102 rfl)
  b_tuple := He.free_ok X G (c.fact 104 rfl)
  b_zip := He.free_ok X G (c.fact 105 rfl)
  m_comb := PySem.W.mg_of X G (He.eqO_ok (show He.eqO _ _ = true from c.fact 108 rfl))
  g_MOST_NUMBER := He.int_ok X G (c.fact 106 rfl)
  g_MOST_SIZE := He.int_ok X G (c.fact 107 rfl)
  c_BadNumber := ⟨_, He.glo_ok X G (c.fact 110 rfl), _, sup_ok (show supB K _ _ _ _ _ = true from c.fact 111 rfl) (He.free_ok X G (c.fact 103 rfl)) (by decide +kernel) ⟨by decide, by decide, by decide⟩ bind_part⟩
  d_is_number := c.defFF X G 0 0
  d_is_between := c.defFF X G 3 1
  d_need_between := c.defFF X G 6 2
  d_choices_many := c.defFF X G 9 3
  d_greatest_points := c.defFF X G 12 4
  d_cascade_told := c.defFF X G 15 5
  d_shadow_told := c.defFF X G 18 6
  d_raised_told := c.defFF X G 21 7
  d_grown_told := c.defFF X G 24 8
  d_need_both := c.defFF X G 27 9
  d_cascade := c.defFF X G 30 10
  d_shadow_many := c.defFF X G 33 11
  d_raised_many := c.defFF X G 36 12
  d_grown := c.defFF X G 39 13
  d__law_begun := c.defFF X G 42 14
  d__law_mixed := c.defFF X G 45 15
  d__law_take := c.defFF X G 48 16
  d__law_pick := c.defFF X G 51 17
  d__law_caught := c.defFF X G 54 18
  d__law_says := c.defFF X G 57 19
  d__law_ten := c.defFF X G 60 20
  d__law_choose := c.defFF X G 63 21
  d__law_cascade := c.defFF X G 66 22
  d__law_shadow := c.defFF X G 69 23
  d__law_raised := c.defFF X G 72 24
  d__law_grown := c.defFF X G 75 25
  d__law_numbers_bad := c.defFF X G 78 26
  d__law_drawn_number := c.defFF X G 81 27
  d__law_right := c.defFF X G 84 28
  d__law_pair_right := c.defFF X G 87 29
  d_law := c.defFF X G 90 30
  ko := fun t x C b e hm => by
    unfold K41.ko at e
    split at e
    · rename_i z
      obtain ⟨rfl, z⟩ := z
      cases e
      have ec := cls_at X G c 110 rfl hm
      subst ec
      rcases z with rfl | rfl | rfl
      · exact of_decide_eq_true (show decide _ = true from c.fact 115 rfl)
      · exact of_decide_eq_true (show decide _ = true from c.fact 116 rfl)
      · exact of_decide_eq_true (show decide _ = true from c.fact 117 rfl)
    · cases e
  ke := fun x y Cx Cc b e h1 h2 => by
    unfold K41.ke at e
    split at e
    · rename_i z
      obtain ⟨rfl, rfl⟩ := z
      cases e
      have e1 := cls_at X G c 110 rfl h1
      have e2 := cls_at X G c 110 rfl h2
      subst e1 e2
      exact ⟨xck_ok (c.fact 112 rfl), of_decide_eq_true (show decide _ = true from c.fact 118 rfl)⟩
    · cases e
  okx := fun x C e hm => by
    have ex : x = "BadNumber" := by
      unfold K41.okx at e
      exact eq_of_beq e
    subst ex
    have e1 := cls_at X G c 110 rfl hm
    subst e1
    exact ⟨xck_ok (c.fact 112 rfl), He.eqO_ok (show He.eqO _ _ = true from c.fact 113 rfl)⟩
end
theorem keepBody : KeepBody (top 27) "work" "caught" "LotError" "error" := ⟨⟨_, _, _, _, _, _, _, _, _, _, _, _, _, _, _, rfl⟩, sc_law_caught, rfl, rfl, rfl, rfl, by decide⟩
theorem bgBody : BgBody (top 23) bg_st bg_ex "grain" := ⟨⟨_, _, _, _, _, _, _, _, _, _, _, _, _, _, _, rfl⟩, sc_law_begun, rfl⟩
section
variable {K : PySem.W.Frag} {h : Heap} {mg : Str → Option Value} {w : World}
theorem lawAt (fa : Addr) (X : K.In h) (G : h.Ns mainGlobals mg) (c : SaysL fx fn tf h K) (hmg : mg "law" = some (.ref fa)) : LawG R w K 10 63 "script" mg fa h := by
  obtain ⟨l1, l2, oc, od, osl, kV, doc, pm, an, cdv, ct, l3, l4⟩ := c.defF X G (x := "law") (st := top 39) 90 30
  have efa : fa = He.ga K "law" := by
    rw [hmg] at l1
    injection (Option.some.inj l1)
  obtain ⟨cA, rfl⟩ := He.codeIn_ref l4
  have hcA : He.codeOf K ("law", none) = cA := He.codeOf_eq l3 rfl
  obtain ⟨PA, hPA⟩ : ∃ PA, PA = He.tabOf K cA := ⟨_, rfl⟩
  have hcT : He.cT K ("law", none) = (cA, PA) := by
    unfold He.cT
    rw [hcA, hPA]
  have m1 : (("law", none) : He.Defn) ∈ tf := List.mem_singleton.mpr rfl
  have t1 := c.empty _ m1
  have t2 := c.out _ m1
  have t3 := c.hd _ m1
  rw [hcT] at t1 t2 t3
  refine ⟨PySem.W.fnOf "law" "law" (defArgs (top 39)) (defBody (top 39)) (defScope (top 39)) .none kV doc pm an (.ref cA) ct, [(cA, PA)], spLw K mg [(PA, "law.<locals>.<lambda>")], fun p hp => ?_, fun p hp => ?_, fun p hp => ?_, fun s u => BindsTo.of_eq rfl, fun a ns known ob hl hb ha hs => ?_, fun base KB GB TB => ?_⟩
  · rw [List.mem_singleton.mp hp]
    exact t1
  · rw [List.mem_singleton.mp hp]
    exact t2
  · rw [List.mem_singleton.mp hp]
    exact PySem.W.codeHd_of_K X t3
  · exact spLw_start (fun p hp => by rw [List.mem_singleton.mp hp]; exact List.mem_singleton.mpr rfl) ha hl hs
  · have V : Vx R.prog w K mg base [(PA, "law.<locals>.<lambda>")] := vx X G c
    have f1 := k_is_number V i_is_number
    have f2 := k_is_between V f1 i_is_between
    have f3 := k_need_between V f2 i_need_between
    have f4 := k_choices_many V i_choices_many
    have f5 := k_greatest_points V f4 i_greatest_points
    have f6 := k_cascade_told V f4 f5 i_cascade_told
    have f7 := k_shadow_told V f4 f6 i_shadow_told
    have f8 := k_raised_told V f4 f6 i_raised_told
    have f9 := k_grown_told V f4 f6 i_grown_told
    have f10 := k_need_both V f3 i_need_both
    have f11 := k_cascade V f6 f10 i_cascade
    have f12 := k_shadow_many V f7 f10 i_shadow_many
    have f13 := k_raised_many V f8 f10 i_raised_many
    have f14 := k_grown V f9 f10 i_grown
    have f15 := k_law_mixed V i_law_mixed
    have f16 := k_law_take V f15 i_law_take
    have f17 := k_law_pick V f16 i_law_pick
    have f18 := k_law_says V i_law_says
    have f19 := k_law_ten V i_law_ten
    have f20 := k_law_choose V i_law_choose
    have f21 := k_law_cascade V f20 i_law_cascade
    have f22 := k_law_shadow V f20 f21 i_law_shadow
    have f23 := k_law_raised V f20 f21 i_law_raised
    have f24 := k_law_grown V f20 f21 i_law_grown
    have f25 := k_law_numbers_bad V f17 i_law_numbers_bad
    have f26 := k_law_drawn_number V f16 f17 f19 i_law_drawn_number
    have f27 := k_law_right V f11 f12 f13 f14 f18 f20 f21 f22 f23 f24 i_law_right
    have f28 := k_law_pair_right V f12 f13 f14 f16 f17 f23 f26 i_law_pair_right
    obtain ⟨gb, fdb, hb1, hb2⟩ := V.d__law_begun.ex
    obtain ⟨gc, fdc, hc1, hc2⟩ := V.d__law_caught.ex
    have CA : Cau K mg base [(PA, "law.<locals>.<lambda>")] (top 27) cA PA "law.<locals>.<lambda>" subx := by
      refine ⟨⟨gc, He.ga K "LotError", fdc, hc1, hc2, hc2.binds fun _ _ _ _ _ _ us hl => match us, hl with | [_], _ => rfl, He.glo_ok X G (c.fact 109 rfl), fun cx Cx hs hm => ?_⟩, keepBody, TB _ (List.mem_singleton.mpr rfl), List.mem_singleton.mpr rfl, fun p hp _ => by rw [List.mem_singleton.mp hp]⟩
      have ex : cx = "BadNumber" := eq_of_beq hs
      subst ex
      have e1 := cls_at X G c 110 rfl hm
      subst e1
      exact of_decide_eq_true (show decide _ = true from c.fact 114 rfl)
    have fb := (begun_fn (T := [(PA, "law.<locals>.<lambda>")]) (w := w) (P := R.prog) (base := base) (mg := mg) (k := 1) hb2 bgBody (fun cdv A outer s H E g B cx => k_law_begun1 V _ cdv A outer s H E g B cx) (fun cdv A outer s H E g B cx => k_law_begun3 V _ cdv A outer s H E g B cx)).mono (show 2 ≤ 9 by decide)
    rw [efa]
    exact law_fn (rest := (defBody (top 39)).tail) (i := 1) (N := ["script", "draw", "turn", "work", "error", "other"]) l3 l4 sc_law rfl fb hb2 (hb2.binds fun _ _ _ _ _ _ us hl => match us, hl with | [_], _ => rfl) hb1 rfl rfl (by decide) (.inl rfl) (.inr rfl) rfl rfl (fun _ _ _ _ _ => rfl) (fun _ _ _ _ _ => .inl rfl)
      (fun A outer s H E g B cx => k_law V f11 f12 f13 f14 f16 f17 f25 f26 f27 f28 CA _ A outer s H E g B cx) (fun l hl => i_law l hl)
end
end K41

set_option Elab.async false
set_option linter.all false
open PySem PySem.W PySem.Calls PyProof.Rows
set_option maxRecDepth 100000 in
set_option maxHeartbeats 0 in
theorem PySem.Challenge.cw_lotsclosed_k41_whole_cascades_holds : PySem.Challenge.rw_lotsclosed_k41_whole_cascades.Holds := by
  w_on; o_law
  refine HandSHeadRun.head_imp (r := OpenLaw.row PySem.Challenge.rw_lotsclosed_k41_whole_cascades) (q := view (OpenLaw.row PySem.Challenge.rw_lotsclosed_k41_whole_cascades).prog [0, 39]) (H := DL.hookL 5 K41.fx K41.fn K41.tf) (ob := K41.ob) (M := 20000) (loose := K41.loose) (d := HandSHeadRun.topDef (OpenLaw.row PySem.Challenge.rw_lotsclosed_k41_whole_cascades).prog 39) (kwd := []) K41.ob_eq
    K41.run (by kernel_rfl) (by kernel_rfl) (by kernel_rfl) (by rfl) (by first | assumption | decide +kernel) (by decide +kernel) ⟨rfl, rfl, rfl, rfl, rfl, by decide +kernel⟩ ?hw ?hc
  case hw => w_witness2
  case hc =>
    refine DL.law_end (l := PySem.Challenge.rw_lotsclosed_k41_whole_cascades) (n := 63) (k := 10) (x := "script") rfl (by decide) (by kernel_rfl) ⟨rfl, by decide, by decide⟩ ?F
    intro w mg fa h yp G hmg0
    obtain ⟨K, KX, c⟩ := yp
    have hmg : mg ("law" : PySem.Str) = some (.ref fa) := by
      have e : (HandSHeadRun.topDef (OpenLaw.row PySem.Challenge.rw_lotsclosed_k41_whole_cascades).prog 39).name = ("law" : PySem.Str) := by kernel_rfl
      rw [← e]
      exact hmg0
    exact ⟨K, KX, K41.lawAt fa KX G c hmg⟩

