import PyProof.Rows.All
import Wide.All
import OpenK.AllK
import Wide.FinOn
import HandS.ForMost
import HandS.ForExc
import HandS.Evl
import HandS.Lambda
import HandS.EndTab
import HandS.Flow
import HandS.Style
import HandS.Deep
import HandS.TupAny
import HandS.RaiseMore
import HandS.Defaults
import HandS.Wide
import HandS.IsInst
import HandS.CallLocal
import HandS.Zip
import HandS.ExcInit
import HandS.ExcIs
import HandS.ExcField
import HandS.ExcOwn
import HandS.SortKw
import KE.KMathGC
import KE.DatumIndex
import KE.KExcSuper
import KE.KSuper
import KE.KExcIs
import HandS.Gcd
import PyProof.StrOps2
import HandS.Head0
import HandS.Head1
import HandS.Head2
import HandS.HeadEnd
import HandS.HeadHook1
import HandS.HeadHook2
import HandS.HeadHook3
import HandS.HeadHook4
import HandS.HeadWalk
import HandS.SortRule
import HandS.SortInts
import HandS.TupSets
import HandS.Conv
import HandS.TupMul
import HandS.SetFor
import KE.KDictCopyH
import KE.KDictOf
import KE.KDictDisplayH
import HandS.Star
import KE.GoesMore
import PyProof.Draws
import PyProof.EnumMake
import HandS.Head3
import PySem.Challenge.RW_lotsclosed_k62_whole_sums_of_stairs
set_option Elab.async false
set_option linter.all false
set_option maxRecDepth 100000
/-! DA: plain data, what stands for it, frames, states of a def's body, and the first rules. -/
namespace DL
open PySem PySem.Spec PyProof.Rows L2

/-- plain data (and the few other things that values are) -/
inductive D where
  | non | bl (b : Bool) | int (i : Int) | str (x : Str)
  | tup (l : List D) | lst (l : List D)
  | fn (x : Str) | ty (x : String)
  | exc (x : Str) (ns : List Str) (ds : List D)
  | ins (x : Str) (ns : List Str) (ds : List D)
  | dic (ks : List D) (vs : List D)
  | drw | scr (l : List Int)
  | opq (a : Nat)

/-- a dict's key as plain data -/
def kD : L2.Key → D
  | .inl i => .int i
  | .inr x => .str x
def tD (k : List L2.Key) : D := .tup (k.map kD)
/-- a dict's keys, its values, the tracked object: keys ints and texts, or tuples of these -/
def DicH (b : Bool) (ks : List D) (us : List V) (o : HO) : Prop := (b = false ∧ ∃ keys : List L2.Key, ks = keys.map kD ∧ us.length = keys.length ∧ keys.Nodup ∧ o = .dK (keys.zip us)) ∨
  (b = true ∧ ∃ keys : List (List L2.Key), ks = keys.map tD ∧ us.length = keys.length ∧ keys.Nodup ∧ o = .dT (keys.zip us))

/-- what is the same through a law's run: the tables of code objects; the region of the draws -/
structure Gd where
  T : List (Addr × Str)
  R : List Addr
  dw : Hp → Prop
  dv : V
  ks : Hp
  dwk : ∀ H H' : Hp, (∀ a ∈ R, H' a = H a) → dw H → dw H'
  dwa : ∀ H, dw H → ∀ a ∈ R, ∃ o, H a = some o ∧ (∀ ps, o ≠ .tbl ps) ∧ (∀ vs, o ≠ .tup vs) ∧ ∀ p, o ≠ .ext p

/-- the draws: the dict at d, the rest of the large numbers at b, the cells at c -/
def DrwAt (d b c : Addr) (H : Hp) : Prop := ∃ (big : List Int) (rest turn : Int), H d = some (.dK [(.inr "large", .ref b), (.inr "rest", .int rest), (.inr "cells", .ref c), (.inr "turn", .int turn)]) ∧ H b = some (.lst (big.map V.int)) ∧
  big.length ≤ 63 ∧ (∀ z ∈ big, 0 ≤ z) ∧ 0 ≤ rest ∧ 0 ≤ turn
def DrwOk (g : Gd) : Prop := ∃ (d b c : Addr) (cells : List Int), g.dv = .ref d ∧ g.R = [d, b] ∧ g.ks c = some (.lst (cells.map V.int)) ∧ cells.length ≤ 63 ∧ (∀ z ∈ cells, 0 ≤ z) ∧ ∀ H, g.dw H ↔ DrwAt d b c H

/-- an exception that was caught, held as a value -/
def exV (cls : Value) (d : Option Addr) (a : Addr) : HO := .ext fun h => ∃ (oe : Obj) (vs : Array Value), h.get? a = some oe ∧ Zc cls d oe ∧ oe.data = .fields vs

mutual
def Rep (K : PySem.W.Frag) (mg : Str → Option Value) (g : Gd) (S : Hp) : D → V → Prop
  | .non, v => v = .non
  | .bl b, v => v = .bl b
  | .int i, v => v = .int i
  | .str x, v => v = .str x
  | .tup l, v => ∃ a vs, v = .ref a ∧ S a = some (.tup vs) ∧ Reps K mg g S l vs
  | .lst l, v => ∃ a vs, v = .ref a ∧ S a = some (.lst vs) ∧ Reps K mg g S l vs
  | .fn x, v => ∃ f, v = .ref f ∧ mg x = some (.ref f)
  | .ty x, v => v = .ty x
  | .exc x ns ds, v => ∃ a C d vs, v = .ref a ∧ mg x = some (.ref C) ∧ S a = some (exV (.ref C) d a) ∧ Reps K mg g S ds vs ∧ ns.length = ds.length ∧
      (∀ dx, d = some dx → S dx = some (.xd (ns.zip vs))) ∧ (d = none → ns = [])
  | .ins x ns ds, v => ∃ a C dx vs, v = .ref a ∧ mg x = some (.ref C) ∧ S a = some (.ins C dx (ns.zip vs)) ∧ Reps K mg g S ds vs ∧ ns.length = ds.length
  | .dic ks ws, v => ∃ a us o b, v = .ref a ∧ S a = some o ∧ DicH b ks us o ∧ Reps K mg g S ws us
  | .drw, v => v = g.dv ∧ DrwOk g
  | .scr l, v => ∃ a, v = .ref a ∧ SqL K S a (l.map V.int)
  | .opq a, v => v = .ref a
def Reps (K : PySem.W.Frag) (mg : Str → Option Value) (g : Gd) (S : Hp) : List D → List V → Prop
  | [], vs => vs = []
  | d :: ds, vs => ∃ w ws, vs = w :: ws ∧ Rep K mg g S d w ∧ Reps K mg g S ds ws
end

abbrev Ex (H H' : Hp) : Prop := ∀ a o, H a = some o → H' a = some o
theorem Ex.rf (H : Hp) : Ex H H := fun _ _ h => h
theorem Ex.tr {H H1 H2 : Hp} (a : Ex H H1) (b : Ex H1 H2) : Ex H H2 := fun x o h => b x o (a x o h)

section
variable {K : PySem.W.Frag} {mg : Str → Option Value} {g : Gd} {S S' : Hp}
mutual
theorem Rep.mono (e : Ex S S') : ∀ (d : D) (v : V), Rep K mg g S d v → Rep K mg g S' d v
  | .non, v, h => h
  | .bl b, v, h => h
  | .int i, v, h => h
  | .str x, v, h => h
  | .tup l, v, h => by
    unfold Rep at h ⊢
    obtain ⟨a, vs, h1, h2, h3⟩ := h
    exact ⟨a, vs, h1, e _ _ h2, Reps.mono e l vs h3⟩
  | .lst l, v, h => by
    unfold Rep at h ⊢
    obtain ⟨a, vs, h1, h2, h3⟩ := h
    exact ⟨a, vs, h1, e _ _ h2, Reps.mono e l vs h3⟩
  | .fn x, v, h => h
  | .ty x, v, h => h
  | .exc x ns ds, v, h => by
    unfold Rep at h ⊢
    obtain ⟨a, C, d, vs, h1, h2, h3, h4, h5, h6, h7⟩ := h
    exact ⟨a, C, d, vs, h1, h2, e _ _ h3, Reps.mono e ds vs h4, h5, fun dx q => e _ _ (h6 dx q), h7⟩
  | .ins x ns ds, v, h => by
    unfold Rep at h ⊢
    obtain ⟨a, C, dx, vs, h1, h2, h3, h4, h5⟩ := h
    exact ⟨a, C, dx, vs, h1, h2, e _ _ h3, Reps.mono e ds vs h4, h5⟩
  | .dic ks ws, v, h => by
    unfold Rep at h ⊢
    obtain ⟨a, us, o, b, h1, h2, h3, h4⟩ := h
    exact ⟨a, us, o, b, h1, e _ _ h2, h3, Reps.mono e ws us h4⟩
  | .drw, v, h => h
  | .scr l, v, h => by
    unfold Rep at h ⊢
    obtain ⟨a, h1, h2⟩ := h
    exact ⟨a, h1, Evl.ex_l e h2⟩
  | .opq a, v, h => h
theorem Reps.mono (e : Ex S S') : ∀ (ds : List D) (vs : List V), Reps K mg g S ds vs → Reps K mg g S' ds vs
  | [], vs, h => h
  | d :: ds, vs, h => by
    unfold Reps at h ⊢
    obtain ⟨w, ws, h1, h2, h3⟩ := h
    exact ⟨w, ws, h1, Rep.mono e d w h2, Reps.mono e ds ws h3⟩
end
theorem Reps.len : ∀ {ds : List D} {vs : List V}, Reps K mg g S ds vs → ds.length = vs.length
  | [], vs, h => by
    unfold Reps at h
    rw [h]
    rfl
  | d :: ds, vs, h => by
    unfold Reps at h
    obtain ⟨w, ws, h1, _, h3⟩ := h
    rw [h1, List.length_cons, List.length_cons, Reps.len h3]
theorem Reps.nil : Reps K mg g S [] [] := by
  unfold Reps
  rfl
theorem Reps.cons {d : D} {v : V} {ds : List D} {vs : List V} (h : Rep K mg g S d v) (t : Reps K mg g S ds vs) : Reps K mg g S (d :: ds) (v :: vs) := by
  unfold Reps
  exact ⟨v, vs, rfl, h, t⟩
theorem Reps.app : ∀ {ds es : List D} {vs ws : List V}, Reps K mg g S ds vs → Reps K mg g S es ws → Reps K mg g S (ds ++ es) (vs ++ ws)
  | [], es, vs, ws, h, t => by
    unfold Reps at h
    rw [h]
    exact t
  | d :: ds, es, vs, ws, h, t => by
    unfold Reps at h
    obtain ⟨w, us, h1, h2, h3⟩ := h
    rw [h1]
    exact Reps.cons h2 (Reps.app h3 t)
theorem Reps.get : ∀ {ds : List D} {vs : List V} {i : Nat} {v : V}, Reps K mg g S ds vs → vs[i]? = some v → ∃ d, ds[i]? = some d ∧ Rep K mg g S d v
  | [], vs, i, v, h, e => by
    unfold Reps at h
    rw [h] at e
    simp at e
  | d :: ds, vs, i, v, h, e => by
    unfold Reps at h
    obtain ⟨w, us, h1, h2, h3⟩ := h
    rw [h1] at e
    cases i with
    | zero =>
      have e' : w = v := by simpa using e
      rw [← e']
      exact ⟨d, rfl, h2⟩
    | succ i =>
      obtain ⟨d', q1, q2⟩ := Reps.get (i := i) h3 (by simpa using e)
      exact ⟨d', by simpa using q1, q2⟩
theorem Reps.got : ∀ {ds : List D} {vs : List V} {i : Nat} {d : D}, Reps K mg g S ds vs → ds[i]? = some d → ∃ v, vs[i]? = some v ∧ Rep K mg g S d v := fun {ds vs i d} h e => by
  have hl := h.len
  have hi := (List.getElem?_eq_some_iff.mp e).1
  have hv : vs[i]? = some (vs[i]'(by omega)) := by simp
  obtain ⟨d', q1, q2⟩ := Reps.get h hv
  rw [e] at q1
  cases q1
  exact ⟨_, hv, q2⟩
end

/-! ### frames -/
def isDic : HO → Bool
  | .dK _ => true
  | .dT _ => true
  | _ => false
/-- the stable part S lies in H (a dict may be locked there) -/
def Le (S H : Hp) : Prop := ∀ a o, S a = some o → H a = some o ∨ (isDic o = true ∧ ∃ ob, H a = some (.frz ob o))
theorem Le.none {S H : Hp} (h : Le S H) {a : Addr} (e : H a = none) : S a = none := by
  cases q : S a with
  | none => rfl
  | some o =>
    rcases h a o q with z | ⟨_, ob, z⟩ <;> rw [e] at z <;> cases z
theorem Le.ex {S H H' : Hp} (h : Le S H) (e : Ex H H') : Le S H' := fun a o q => by
  rcases h a o q with z | ⟨z1, ob, z⟩
  · exact .inl (e _ _ z)
  · exact .inr ⟨z1, ob, e _ _ z⟩
theorem Le.rd {S H : Hp} (h : Le S H) {a : Addr} {u : HO} (hu : isDic u = false) (r : Rd S a u) : Rd H a u := by
  rcases r with r | ⟨o, r⟩
  · rcases h a u r with z | ⟨z, _⟩
    · exact .inl z
    · rw [hu] at z
      cases z
  · rcases h a _ r with z | ⟨z, _⟩
    · exact .inr ⟨o, z⟩
    · cases z
theorem Le.sqL {K : PySem.W.Frag} {S H : Hp} {a : Addr} {xs : List V} (h : Le S H) (q : SqL K S a xs) : SqL K H a xs := by
  rcases q with q | q
  · exact .inl (h.rd rfl q)
  · exact .inr q
theorem Le.sqT {K : PySem.W.Frag} {S H : Hp} {a : Addr} {xs : List V} (h : Le S H) (q : S a = some (.tup xs)) : SqT K H a xs := .inl (h.rd rfl (.inl q))
theorem Le.tup {S H : Hp} {a : Addr} {xs : List V} (h : Le S H) (q : S a = some (.tup xs)) : H a = some (.tup xs) := by
  rcases h a _ q with z | ⟨z, _⟩
  · exact z
  · cases z

/-- nothing stands there, or a table of code objects -/
def Nn (H : Hp) (a : Addr) : Prop := ∀ o, H a = some o → ∃ ps, o = .tbl ps
theorem Nn.of {H : Hp} {a : Addr} (h : H a = none) : Nn H a := fun o e => by
  rw [h] at e
  cases e
theorem Nn.lst {H : Hp} {a : Addr} {vs : List V} (h : Nn H a) (e : H a = some (.lst vs)) : False := by
  obtain ⟨ps, z⟩ := h _ e
  cases z
/-- from (S0, H0), a def's entry or a call's start, to (S, H) -/
structure Frm (g : Gd) (S0 H0 S H : Hp) : Prop where
  ss : Ex S0 S
  le : Le S H
  fr : ∀ a o, H0 a = some o → a ∉ g.R → (∀ ps, o ≠ .tbl ps) → H a = some o
  al : ∀ a, H a = none → Nn H0 a
  nw : ∀ a o, S a = some o → S0 a = some o ∨ Nn H0 a ∨ (H0 a = some o ∧ ∃ vs, o = .tup vs)
  dw : g.dw H
  rs : ∀ a ∈ g.R, S a = none
  tb : LamX.Tabs g.T H
  nt : ∀ a ps, S a ≠ some (.tbl ps)
  kn : Ex g.ks S
/-- only new things -/
structure New (S H S' H' : Hp) : Prop where
  ss : Ex S S'
  hh : Ex H H'
  le : Le S' H'
  nw : ∀ a o, S' a = some o → S a = some o ∨ H a = none ∨ (H a = some o ∧ ∃ vs, o = .tup vs)
  nt : (∀ a ps, S a ≠ some (.tbl ps)) → ∀ a ps, S' a ≠ some (.tbl ps)
theorem New.rf {S H : Hp} (l : Le S H) : New S H S H := ⟨Ex.rf _, Ex.rf _, l, fun _ _ h => .inl h, fun h => h⟩
theorem Ex.none {H H' : Hp} (e : Ex H H') {a : Addr} (h : H' a = none) : H a = none := by
  cases q : H a with
  | none => rfl
  | some o =>
    rw [e _ _ q] at h
    cases h
theorem New.tr {S H S1 H1 S2 H2 : Hp} (a : New S H S1 H1) (b : New S1 H1 S2 H2) : New S H S2 H2 :=
  ⟨a.ss.tr b.ss, a.hh.tr b.hh, b.le, fun x o h => by
    rcases b.nw x o h with z | z | ⟨z, w⟩
    · exact a.nw x o z
    · exact .inr (.inl (a.hh.none z))
    · cases q : H x with
      | none => exact .inr (.inl rfl)
      | some u =>
        have e := a.hh _ _ q
        rw [z] at e
        exact .inr (.inr ⟨e.symm, w⟩), fun h => b.nt (a.nt h)⟩
/-- a new object, known for good -/
theorem New.add {S H : Hp} {p : Addr} {o : HO} (l : Le S H) (n : H p = none) (ht : ∀ ps, o ≠ .tbl ps) : New S H (upd S p o) (upd H p o) := by
  have ns := l.none n
  refine ⟨fun a u e => ?_, fun a u e => ?_, fun a u e => ?_, fun a u e => ?_, fun h a ps e => ?_⟩
  · rw [upd_ne (ne_of_none e ns)]
    exact e
  · rw [upd_ne (ne_of_none e n)]
    exact e
  · by_cases q : a = p
    · rw [q, upd_same] at e
      rw [q, upd_same]
      exact .inl e
    · rw [upd_ne q] at e
      rw [upd_ne q]
      exact l a u e
  · by_cases q : a = p
    · rw [q]
      exact .inr (.inl n)
    · rw [upd_ne q] at e
      exact .inl e
  · by_cases q : a = p
    · rw [q, upd_same] at e
      exact ht ps (Option.some.inj e)
    · rw [upd_ne q] at e
      exact h a ps e
/-- a tuple that stands is told of -/
theorem New.adopt {S H : Hp} {p : Addr} {vs : List V} (l : Le S H) (n : H p = some (.tup vs)) : New S H (upd S p (.tup vs)) H := by
  refine ⟨fun a u e => ?_, Ex.rf _, fun a u e => ?_, fun a u e => ?_, fun h a ps e => ?_⟩
  · by_cases q : a = p
    · rw [q] at e ⊢
      rw [upd_same]
      rcases l p u e with z | ⟨z1, ob, z⟩
      · rw [n] at z
        exact z
      · rw [n] at z
        cases z
    · rw [upd_ne q]
      exact e
  · by_cases q : a = p
    · rw [q, upd_same] at e
      rw [q, ← Option.some.inj e]
      exact .inl n
    · rw [upd_ne q] at e
      exact l a u e
  · by_cases q : a = p
    · rw [q, upd_same] at e
      rw [q]
      have e2 := Option.some.inj e
      subst e2
      exact .inr (.inr ⟨n, vs, rfl⟩)
    · rw [upd_ne q] at e
      exact .inl e
  · by_cases q : a = p
    · rw [q, upd_same] at e
      cases e
    · rw [upd_ne q] at e
      exact h a ps e
/-- a new object that is not told of -/
theorem New.hid {S H : Hp} {p : Addr} {o : HO} (l : Le S H) (n : H p = none) : New S H S (upd H p o) :=
  ⟨Ex.rf _, fun a u e => by rw [upd_ne (ne_of_none e n)]; exact e, fun a u e => by
    have e' : a ≠ p := fun q => by
      rw [q, l.none n] at e
      cases e
    rw [upd_ne e']
    exact l a u e, fun _ _ h => .inl h, fun h => h⟩
section
variable {g : Gd} {S0 H0 S H S' H' : Hp}
/-- a tuple that stands now stood at the start, or is new -/
theorem Frm.stood (f : Frm g S0 H0 S H) {a : Addr} {o : HO} (h : H a = some o) (w : ∃ vs, o = .tup vs) : Nn H0 a ∨ (H0 a = some o ∧ ∃ vs, o = .tup vs) := by
  cases q : H0 a with
  | none => exact .inl (Nn.of q)
  | some u =>
    by_cases ht : ∃ ps, u = .tbl ps
    · refine .inl fun v e => ?_
      rw [q] at e
      rw [← Option.some.inj e]
      exact ht
    · by_cases hr : a ∈ g.R
      · obtain ⟨vs, rfl⟩ := w
        obtain ⟨y, hy, _, hv, _⟩ := g.dwa _ f.dw a hr
        rw [h] at hy
        exact absurd (Option.some.inj hy).symm (hv vs)
      · have e := f.fr a u q hr fun ps z => ht ⟨ps, z⟩
        rw [h] at e
        have e2 := Option.some.inj e
        subst e2
        exact .inr ⟨rfl, w⟩
theorem tabs_ex {T : List (Addr × Str)} (t : LamX.Tabs T H) (e : Ex H H') : LamX.Tabs T H' := t.ext e
theorem Frm.new (f : Frm g S0 H0 S H) (n : New S H S' H') : Frm g S0 H0 S' H' where
  ss := f.ss.tr n.ss
  le := n.le
  fr := fun a o h1 h2 h3 => n.hh _ _ (f.fr a o h1 h2 h3)
  al := fun a h => f.al a (n.hh.none h)
  nw := fun a o h => by
    rcases n.nw a o h with z | z | ⟨z, w⟩
    · exact f.nw a o z
    · exact .inr (.inl (f.al a z))
    · exact .inr (f.stood z w)
  dw := g.dwk _ _ (fun a ha => by
    obtain ⟨o, ho, _⟩ := g.dwa _ f.dw a ha
    rw [ho, n.hh _ _ ho]) f.dw
  rs := fun a h => by
    cases q : S' a with
    | none => rfl
    | some o =>
      obtain ⟨u, hu, _, hv, _⟩ := g.dwa _ f.dw a h
      rcases n.nw a o q with z | z | ⟨z, vs, w⟩
      · rw [f.rs a h] at z
        cases z
      · rw [hu] at z
        cases z
      · rw [hu, w] at z
        exact absurd (Option.some.inj z) (hv vs)
  tb := tabs_ex f.tb n.hh
  nt := n.nt f.nt
  kn := f.kn.tr n.ss
theorem tabs_lst {T : List (Addr × Str)} {a : Addr} {us vs : List V} (t : LamX.Tabs T H) (h : H a = some (.lst us)) : LamX.Tabs T (upd H a (.lst vs)) := fun p hp => by
  obtain ⟨ps, h1, h2, h3⟩ := t p hp
  refine ⟨ps, by rw [upd_ne (fun q => by rw [q, h] at h1; cases h1)]; exact h1, h2, fun pos cv hc => ?_⟩
  obtain ⟨c, e1, e2⟩ := h3 pos cv hc
  refine ⟨c, e1, ?_⟩
  rw [upd_ne (fun q => ?_)]
  · exact e2
  · rw [q, h] at e2
    have z := Option.some.inj e2
    unfold LamX.CodeO at z
    cases z
theorem Frm.back (f : Frm g S0 H0 S H) {a : Addr} (h : Nn H a) : Nn H0 a := fun o e => by
  by_cases ht : ∃ ps, o = .tbl ps
  · exact ht
  · by_cases hr : a ∈ g.R
    · obtain ⟨u, hu, hn, _⟩ := g.dwa _ f.dw a hr
      obtain ⟨ps, z⟩ := h u hu
      exact absurd z (hn ps)
    · exact h o (f.fr a o e hr fun ps z => ht ⟨ps, z⟩)
/-- the tables and code objects grow -/
theorem Frm.tabs (f : Frm g S0 H0 S H) (e : LamX.ExtN H H') (t : LamX.Tabs g.T H') : Frm g S0 H0 S H' where
  ss := f.ss
  le := fun a o h => by
    rcases f.le a o h with z | ⟨z1, ob, z⟩
    · exact .inl (e a o z fun ps q => f.nt a ps (by rw [h, q]))
    · exact .inr ⟨z1, ob, e a _ z fun ps q => by cases q⟩
  fr := fun a o h1 h2 h3 => e a o (f.fr a o h1 h2 h3) h3
  al := fun a h => f.back fun o z => by
    by_cases ht : ∃ ps, o = .tbl ps
    · exact ht
    · rw [e a o z fun ps q => ht ⟨ps, q⟩] at h
      cases h
  nw := f.nw
  dw := g.dwk _ _ (fun a ha => by
    obtain ⟨o, ho, hn, _⟩ := g.dwa _ f.dw a ha
    rw [ho, e a o ho hn]) f.dw
  rs := f.rs
  tb := t
  nt := f.nt
  kn := f.kn
/-- two frames, one behind the other -/
theorem Frm.tr (f : Frm g S0 H0 S H) (f2 : Frm g S H S' H') : Frm g S0 H0 S' H' where
  ss := f.ss.tr f2.ss
  le := f2.le
  fr := fun a o h1 h2 h3 => f2.fr a o (f.fr a o h1 h2 h3) h2 h3
  al := fun a h => f.back (f2.al a h)
  nw := fun a o h => by
    rcases f2.nw a o h with z | z | ⟨z, w⟩
    · exact f.nw a o z
    · exact .inr (.inl (f.back z))
    · exact .inr (f.stood z w)
  dw := f2.dw
  rs := f2.rs
  tb := f2.tb
  nt := f2.nt
  kn := f2.kn
theorem Frm.rf (f : Frm g S0 H0 S H) : Frm g S H S H where
  ss := Ex.rf _
  le := f.le
  fr := fun _ _ h _ _ => h
  al := fun _ h => Nn.of h
  nw := fun _ _ h => .inl h
  dw := f.dw
  rs := f.rs
  tb := f.tb
  nt := f.nt
  kn := f.kn
end

theorem dicH_cases {b : Bool} {ks : List D} {us : List V} {o : HO} (h : DicH b ks us o) : (∃ kvs, o = .dK kvs) ∨ ∃ kvs, o = .dT kvs := by
  rcases h with ⟨_, keys, _, _, _, e⟩ | ⟨_, keys, _, _, _, e⟩
  · exact .inl ⟨_, e⟩
  · exact .inr ⟨_, e⟩
/-- a thing that changes: no tuple, no table, nothing locked -/
def Mut (o : HO) : Prop := (∃ vs, o = .lst vs) ∨ (∃ kvs, o = .dK kvs) ∨ ∃ kvs, o = .dT kvs
theorem Mut.lst {vs : List V} : Mut (.lst vs) := .inl ⟨vs, rfl⟩
theorem Mut.dic {b : Bool} {ks : List D} {us : List V} {o : HO} (h : DicH b ks us o) : Mut o := .inr (dicH_cases h)
theorem Mut.nt {o : HO} (h : Mut o) : (∀ vs, o ≠ .tup vs) ∧ ∀ ps, o ≠ .tbl ps := by
  rcases h with ⟨_, rfl⟩ | ⟨_, rfl⟩ | ⟨_, rfl⟩ <;> exact ⟨fun _ z => (by cases z), fun _ z => (by cases z)⟩
theorem New.keepN {S H S' H' : Hp} (n : New S H S' H') {a : Addr} {o : HO} (h1 : S a = none) (h2 : H a = some o) (m : Mut o) : S' a = none := by
  cases q : S' a with
  | none => rfl
  | some u =>
    rcases n.nw a u q with z | z | ⟨z, vs, w⟩
    · rw [h1] at z
      cases z
    · rw [h2] at z
      cases z
    · rw [h2, w] at z
      exact absurd (Option.some.inj z) (m.nt.1 vs)
theorem Frm.keepN {g : Gd} {S H S' H' : Hp} (f : Frm g S H S' H') {a : Addr} {o : HO} (h1 : S a = none) (h2 : H a = some o) (m : Mut o) : S' a = none := by
  cases q : S' a with
  | none => rfl
  | some u =>
    rcases f.nw a u q with z | z | ⟨z, vs, w⟩
    · rw [h1] at z
      cases z
    · obtain ⟨ps, e⟩ := z o h2
      exact absurd e (m.nt.2 ps)
    · rw [h2, w] at z
      exact absurd (Option.some.inj z) (m.nt.1 vs)

/-! ### a body's state -/
/-- a local name: unknown; plain data; a list that this name alone holds -/
inductive Slot where
  | un | sh (d : D) | own (l : List D) | odc (b : Bool) (ks vs : List D)
/-- it alone holds a thing -/
def Slot.holds : Slot → Bool
  | .own _ => true
  | .odc _ _ _ => true
  | _ => false
abbrev Ev := List Slot
section
variable (K : PySem.W.Frag) (mg : Str → Option Value) (g : Gd)
def SlotOk (B : Hp × Hp) (S H : Hp) (s : Slot) (o : Option (Option V)) : Prop :=
  match s with
  | .un => True
  | .sh d => ∃ v, o = some (some v) ∧ Rep K mg g S d v
  | .own l => ∃ a vs, o = some (some (.ref a)) ∧ S a = none ∧ Nn B.2 a ∧ a ∉ g.R ∧ H a = some (.lst vs) ∧ Reps K mg g S l vs
  | .odc b ks ws => ∃ a u us, o = some (some (.ref a)) ∧ S a = none ∧ Nn B.2 a ∧ a ∉ g.R ∧ H a = some u ∧ DicH b ks us u ∧ Reps K mg g S ws us
structure Ok (B : Hp × Hp) (env : Ev) (S : Hp) (σ : L2.St) (H : Hp) : Prop where
  frm : Frm g B.1 B.2 S H
  len : env.length = σ.length
  slots : ∀ (i : Nat) (s : Slot), env[i]? = some s → SlotOk K mg g B S H s σ[i]?
  apart : ∀ (i j : Nat) (l m : Slot) (a : Addr), env[i]? = some l → env[j]? = some m → l.holds = true → m.holds = true → σ[i]? = some (some (.ref a)) → σ[j]? = some (some (.ref a)) → i = j
end

/-- a computation: what is wanted of its value, of its error -/
abbrev W (α : Type) := (α → Prop) → (D → Prop) → Prop
abbrev EM := Ev → W D
def W.ret {α : Type} (a : α) : W α := fun P _ => P a
def W.bind {α β : Type} (m : W α) (k : α → W β) : W β := fun P X => m (fun a => k a P X) X
def W.fail {α : Type} : W α := fun _ _ => False
def W.raise {α : Type} (x : D) : W α := fun _ X => X x

/-- an error in flight: its class, its own dict -/
def RepX (K : PySem.W.Frag) (mg : Str → Option Value) (g : Gd) (S : Hp) (cls : Value) (d : Option Addr) : D → Prop
  | .exc x ns ds => ∃ C vs, mg x = some (.ref C) ∧ cls = .ref C ∧ Reps K mg g S ds vs ∧ ns.length = ds.length ∧ (∀ dx, d = some dx → S dx = some (.xd (ns.zip vs))) ∧ (d = none → ns = [])
  | _ => False

section
variable (X : Cx) (g : Gd) (B : Hp × Hp) (E : XK)
/-- how an expression's computation is met by the hand layer's reading -/
def clo (m : EM) : TE := fun σ H Q => ∃ env S P Z, Ok X.K X.mg g B env S σ H ∧ m env P Z ∧
  (∀ d v S' H', P d → Ok X.K X.mg g B env S' σ H' → Ex S S' → Rep X.K X.mg g S' d v → Q v H') ∧
  (∀ x cls dx S' H', Z x → Frm g B.1 B.2 S' H' → RepX X.K X.mg g S' cls dx x → E cls dx H')
def cloT (m : Ev → W Bool) : TT := fun σ H Q => ∃ env S P Z, Ok X.K X.mg g B env S σ H ∧ m env P Z ∧
  (∀ b S' H', P b → Ok X.K X.mg g B env S' σ H' → Ex S S' → Q b H') ∧
  (∀ x cls dx S' H', Z x → Frm g B.1 B.2 S' H' → RepX X.K X.mg g S' cls dx x → E cls dx H')
def cloA (m : Ev → W (List D)) : TA := fun σ H Q => ∃ env S P Z, Ok X.K X.mg g B env S σ H ∧ m env P Z ∧
  (∀ ds vs S' H', P ds → Ok X.K X.mg g B env S' σ H' → Ex S S' → Reps X.K X.mg g S' ds vs → Q vs H') ∧
  (∀ x cls dx S' H', Z x → Frm g B.1 B.2 S' H' → RepX X.K X.mg g S' cls dx x → E cls dx H')
def DE (e : Expr) (m : EM) : Prop := PE X e (clo X g B E m)
def DT (e : Expr) (m : Ev → W Bool) : Prop := PT X e (cloT X g B E m)
def DAr (es : List Expr) (m : Ev → W (List D)) : Prop := PA X es (cloA X g B E m)
end
theorem pe_imp {X : Cx} {e : Expr} {t u : TE} (h : PE X e t) (i : ∀ σ H Q, u σ H Q → t σ H Q) : PE X e u := ⟨fun pins s σ H Q I q => h.run pins s σ H Q I (i σ H Q q)⟩
theorem pt_imp {X : Cx} {e : Expr} {t u : TT} (h : PT X e t) (i : ∀ σ H Q, u σ H Q → t σ H Q) : PT X e u := ⟨fun pins s σ H Q I q => h.run pins s σ H Q I (i σ H Q q)⟩
theorem pa_imp {X : Cx} {e : List Expr} {t u : TA} (h : PA X e t) (i : ∀ σ H Q, u σ H Q → t σ H Q) : PA X e u := ⟨fun pos pins s σ H Q I q => h.run pos pins s σ H Q I (i σ H Q q)⟩
theorem pss_imp {X : Cx} {e : List Stmt} {t u : TS} (h : PSs X e t) (i : ∀ D σ H, u D σ H → t D σ H) : PSs X e u := ⟨fun pins s σ H D I q => h.run pins s σ H D I (i D σ H q)⟩
theorem ps_imp {X : Cx} {e : Stmt} {t u : TS} (h : PS X e t) (i : ∀ D σ H, u D σ H → t D σ H) : PS X e u := ⟨fun pins s σ H D I q => h.run pins s σ H D I (i D σ H q)⟩
end DL

set_option Elab.async false
set_option linter.all false
set_option maxRecDepth 100000
set_option maxHeartbeats 2000000
/-! DB: states under steps; the rules of expressions, statements, loops, comprehensions. -/
namespace DL
open PySem PySem.Spec PyProof.Rows L2
/-! ### no starred argument -/
def isStar : Expr → Bool
  | .Starred _ _ => true
  | _ => false
def noStar : List Expr → Bool
  | [] => true
  | a :: r => !isStar a && noStar r
theorem st_one {a : Expr} {es : List Expr} {env : Env} (h : isStar a = false) : starEach (a :: es) env = (false, eval a env) :: starEach es env := by
  cases a <;> first
    | rfl
    | cases h
theorem noStar_hd {a : Expr} {es : List Expr} (h : noStar (a :: es) = true) : isStar a = false ∧ noStar es = true := by
  unfold noStar at h
  simpa using h
theorem st_cons {a : Expr} {es : List Expr} {env : Env} (h : noStar (a :: es) = true) : starEach (a :: es) env = (false, eval a env) :: starEach es env := st_one (noStar_hd h).1
theorem st_all {pos : Pos} {env : Env} : ∀ {es : List Expr}, noStar es = true → (backTo pos (starEach es env)).any (·.1) = false
  | [], _ => rfl
  | a :: es, h => by
    rw [st_one (noStar_hd h).1]
    unfold backTo
    rw [List.map_cons, List.any_cons]
    have z := st_all (pos := pos) (env := env) (noStar_hd h).2
    unfold backTo at z
    rw [z]
    rfl
theorem st_any {pos : Pos} {a : Expr} {es : List Expr} {env : Env} (h : noStar (a :: es) = true) : (backTo pos (starEach es env)).any (·.1) = false := st_all (noStar_hd h).2

section
variable {K : PySem.W.Frag} {mg : Str → Option Value} {g : Gd} {B : Hp × Hp} {env : Ev} {S S' : Hp} {σ : L2.St} {H H' : Hp}
/-- a slot's thing stands -/
theorem SlotOk.keep {s : Slot} {o : Option (Option V)} (h : SlotOk K mg g B S H s o) (ss : Ex S S') (kp : ∀ a u, S a = none → a ∉ g.R → H a = some u → Mut u → S' a = none ∧ H' a = some u) : SlotOk K mg g B S' H' s o := by
  cases s with
  | un => trivial
  | sh d =>
    obtain ⟨v, h1, h2⟩ := h
    exact ⟨v, h1, h2.mono ss⟩
  | own l =>
    obtain ⟨a, vs, h1, h2, h3, h4, h5, h6⟩ := h
    obtain ⟨z1, z2⟩ := kp a _ h2 h4 h5 .lst
    exact ⟨a, vs, h1, z1, h3, h4, z2, h6.mono ss⟩
  | odc bk ks ws =>
    obtain ⟨a, u, us, h1, h2, h3, h4, h5, h6, h7⟩ := h
    obtain ⟨z1, z2⟩ := kp a _ h2 h4 h5 (.dic h6)
    exact ⟨a, u, us, h1, z1, h3, h4, z2, h6, h7.mono ss⟩
/-- what a slot alone holds -/
theorem SlotOk.at_ {s : Slot} {o : Option (Option V)} (h : SlotOk K mg g B S H s o) (hs : s.holds = true) : ∃ a u, o = some (some (.ref a)) ∧ S a = none ∧ Nn B.2 a ∧ a ∉ g.R ∧ H a = some u ∧ Mut u := by
  cases s with
  | un => cases hs
  | sh d => cases hs
  | own l =>
    obtain ⟨a, vs, h1, h2, h3, h4, h5, h6⟩ := h
    exact ⟨a, _, h1, h2, h3, h4, h5, .lst⟩
  | odc bk ks ws =>
    obtain ⟨a, u, us, h1, h2, h3, h4, h5, h6, h7⟩ := h
    exact ⟨a, u, h1, h2, h3, h4, h5, .dic h6⟩
/-- only new things: the state stays one -/
theorem Ok.new (k : Ok K mg g B env S σ H) (n : New S H S' H') : Ok K mg g B env S' σ H' where
  frm := k.frm.new n
  len := k.len
  slots := fun i s e => (k.slots i s e).keep n.ss fun a u h1 _ h2 m => ⟨n.keepN h1 h2 m, n.hh _ _ h2⟩
  apart := k.apart
/-- behind a call or a comprehension: all that stood stands -/
theorem Ok.call (k : Ok K mg g B env S σ H) (f : Frm g S H S' H') : Ok K mg g B env S' σ H' where
  frm := k.frm.tr f
  len := k.len
  slots := fun i s e => (k.slots i s e).keep f.ss fun a u h1 h4 h2 m => ⟨f.keepN h1 h2 m, f.fr _ _ h2 h4 m.nt.2⟩
  apart := k.apart
theorem getset {α : Type} {l : List α} {i j : Nat} {x y : α} (h : (l.set i x)[j]? = some y) : (i = j ∧ y = x ∧ i < l.length) ∨ (i ≠ j ∧ l[j]? = some y) := by
  by_cases e : i = j
  · subst e
    by_cases hl : i < l.length
    · rw [List.getElem?_set_self hl] at h
      exact .inl ⟨rfl, (Option.some.inj h).symm, hl⟩
    · rw [List.getElem?_eq_none (by simpa using hl)] at h
      cases h
  · rw [List.getElem?_set_ne e] at h
    exact .inr ⟨e, h⟩
/-- a slot is given plain data -/
theorem Ok.set {d : D} {v : V} (i : Nat) (k : Ok K mg g B env S σ H) (r : Rep K mg g S d v) : Ok K mg g B (env.set i (.sh d)) S (σ.set i (some v)) H where
  frm := k.frm
  len := by rw [List.length_set, List.length_set]; exact k.len
  slots := fun j s e => by
    rcases getset e with ⟨rfl, rfl, hl⟩ | ⟨ne, e⟩
    · exact ⟨v, by rw [List.getElem?_set_self (by rw [← k.len]; exact hl)], r⟩
    · rw [List.getElem?_set_ne ne]
      exact k.slots j s e
  apart := fun p q l m a e1 e2 o1 o2 s1 s2 => by
    rcases getset e1 with ⟨rfl, rfl, _⟩ | ⟨n1, e1⟩
    · cases o1
    rcases getset e2 with ⟨rfl, rfl, _⟩ | ⟨n2, e2⟩
    · cases o2
    rw [List.getElem?_set_ne n1] at s1
    rw [List.getElem?_set_ne n2] at s2
    exact k.apart p q l m a e1 e2 o1 o2 s1 s2
/-- a slot is forgotten -/
theorem Ok.drop (i : Nat) (k : Ok K mg g B env S σ H) : Ok K mg g B (env.set i .un) S σ H where
  frm := k.frm
  len := by rw [List.length_set]; exact k.len
  slots := fun j s e => by
    rcases getset e with ⟨rfl, rfl, hl⟩ | ⟨ne, e⟩
    · trivial
    · exact k.slots j s e
  apart := fun p q l m a e1 e2 o1 o2 s1 s2 => by
    rcases getset e1 with ⟨rfl, rfl, _⟩ | ⟨n1, e1⟩
    · cases o1
    rcases getset e2 with ⟨rfl, rfl, _⟩ | ⟨n2, e2⟩
    · cases o2
    exact k.apart p q l m a e1 e2 o1 o2 s1 s2
/-- a slot that goes out of the frame -/
theorem Ok.gone (i : Nat) (o : Option V) (k : Ok K mg g B env S σ H) : Ok K mg g B (env.set i .un) S (σ.set i o) H where
  frm := k.frm
  len := by rw [List.length_set, List.length_set]; exact k.len
  slots := fun j s e => by
    rcases getset e with ⟨rfl, rfl, hl⟩ | ⟨ne, e⟩
    · trivial
    · rw [List.getElem?_set_ne ne]
      exact k.slots j s e
  apart := fun p q l m a e1 e2 o1 o2 s1 s2 => by
    rcases getset e1 with ⟨rfl, rfl, _⟩ | ⟨n1, e1⟩
    · cases o1
    rcases getset e2 with ⟨rfl, rfl, _⟩ | ⟨n2, e2⟩
    · cases o2
    rw [List.getElem?_set_ne n1] at s1
    rw [List.getElem?_set_ne n2] at s2
    exact k.apart p q l m a e1 e2 o1 o2 s1 s2
@[simp] def kilE : List Nat → Ev → Ev
  | [], env => env
  | i :: r, env => (kilE r env).set i .un
theorem Ok.kil (k : Ok K mg g B env S σ H) : ∀ is : List Nat, Ok K mg g B (kilE is env) S σ H
  | [] => k
  | i :: r => (Ok.kil k r).drop i
theorem Ok.wipe (k : Ok K mg g B env S σ H) : ∀ is : List Nat, Ok K mg g B (kilE is env) S (wipe σ is) H
  | [] => k
  | i :: r => by
    unfold L2.wipe kilE
    exact (Ok.wipe k r).gone i none
/-- a new thing, held by a slot alone -/
theorem Ok.holdG {a : Addr} {s : Slot} {o : HO} (i : Nat) (k : Ok K mg g B env S σ H) (n : H a = none) (hm : Mut o) (r : S a = none → Nn B.2 a → a ∉ g.R → SlotOk K mg g B S (upd H a o) s (some (some (.ref a)))) : Ok K mg g B (env.set i s) S (σ.set i (some (.ref a))) (upd H a o) where
  frm := k.frm.new (New.hid k.frm.le n)
  len := by rw [List.length_set, List.length_set]; exact k.len
  slots := fun j t e => by
    have w := k.new (New.hid (o := o) k.frm.le n)
    rcases getset e with ⟨rfl, rfl, hl⟩ | ⟨ne, e⟩
    · rw [List.getElem?_set_self (by rw [← k.len]; exact hl)]
      refine r (k.frm.le.none n) (k.frm.al _ n) fun hR => ?_
      obtain ⟨u, hu, _⟩ := g.dwa _ k.frm.dw a hR
      rw [n] at hu
      cases hu
    · rw [List.getElem?_set_ne ne]
      exact w.slots j t e
  apart := fun p q l' m b e1 e2 o1 o2 s1 s2 => by
    have fresh : ∀ {t : Nat} {m : Slot}, env[t]? = some m → m.holds = true → σ[t]? ≠ some (some (.ref a)) := fun {t m} e o z => by
      obtain ⟨c, u, h1, _, _, _, h5, _⟩ := (k.slots t _ e).at_ o
      rw [z] at h1
      have e' : a = c := by simpa using h1
      rw [← e', n] at h5
      cases h5
    rcases getset e1 with ⟨rfl, _, hl⟩ | ⟨n1, e1⟩
    · rcases getset e2 with ⟨rfl, _, _⟩ | ⟨n2, e2⟩
      · rfl
      · rw [List.getElem?_set_self (by rw [← k.len]; exact hl)] at s1
        rw [List.getElem?_set_ne n2] at s2
        have e' : a = b := by simpa using s1
        rw [← e'] at s2
        exact absurd s2 (fresh e2 o2)
    · rw [List.getElem?_set_ne n1] at s1
      rcases getset e2 with ⟨rfl, _, hl⟩ | ⟨n2, e2⟩
      · rw [List.getElem?_set_self (by rw [← k.len]; exact hl)] at s2
        have e' : a = b := by simpa using s2
        rw [← e'] at s1
        exact absurd s1 (fresh e1 o1)
      · rw [List.getElem?_set_ne n2] at s2
        exact k.apart p q l' m b e1 e2 o1 o2 s1 s2
/-- a new list, held by a slot alone -/
theorem Ok.own {a : Addr} {vs : List V} {l : List D} (i : Nat) (k : Ok K mg g B env S σ H) (n : H a = none) (r : Reps K mg g S l vs) : Ok K mg g B (env.set i (.own l)) S (σ.set i (some (.ref a))) (upd H a (.lst vs)) :=
  k.holdG i n .lst fun h1 h2 h3 => ⟨a, vs, rfl, h1, h2, h3, upd_same, r⟩
/-- a new dict, held by a slot alone -/
theorem Ok.odc {a : Addr} {us : List V} {bk : Bool} {ks ws : List D} {o : HO} (i : Nat) (k : Ok K mg g B env S σ H) (n : H a = none) (d : DicH bk ks us o) (r : Reps K mg g S ws us) : Ok K mg g B (env.set i (.odc bk ks ws)) S (σ.set i (some (.ref a))) (upd H a o) :=
  k.holdG i n (.dic d) fun h1 h2 h3 => ⟨a, o, us, rfl, h1, h2, h3, upd_same, d, r⟩
/-- a thing that stands, held by a slot alone from now on -/
theorem Ok.takeG {a : Addr} {s : Slot} (i : Nat) (k : Ok K mg g B env S σ H) (r : SlotOk K mg g B S H s (some (some (.ref a))))
    (h5 : ∀ (j : Nat) (b : Addr) (m : Slot), env[j]? = some m → m.holds = true → σ[j]? = some (some (.ref b)) → b ≠ a) : Ok K mg g B (env.set i s) S (σ.set i (some (.ref a))) H where
  frm := k.frm
  len := by rw [List.length_set, List.length_set]; exact k.len
  slots := fun j t e => by
    rcases getset e with ⟨rfl, rfl, hl⟩ | ⟨ne, e⟩
    · rw [List.getElem?_set_self (by rw [← k.len]; exact hl)]
      exact r
    · rw [List.getElem?_set_ne ne]
      exact k.slots j t e
  apart := fun p q l' m b e1 e2 o1 o2 s1 s2 => by
    rcases getset e1 with ⟨rfl, z1, l1⟩ | ⟨n1, e1⟩
    · rcases getset e2 with ⟨rfl, _, _⟩ | ⟨n2, e2⟩
      · rfl
      · rw [List.getElem?_set_self (by rw [← k.len]; exact l1)] at s1
        rw [List.getElem?_set_ne n2] at s2
        have w : a = b := by simpa using s1
        exact absurd w.symm (h5 _ _ _ e2 o2 s2)
    · rw [List.getElem?_set_ne n1] at s1
      rcases getset e2 with ⟨rfl, _, l2⟩ | ⟨n2, e2⟩
      · rw [List.getElem?_set_self (by rw [← k.len]; exact l2)] at s2
        have w : a = b := by simpa using s2
        exact absurd w.symm (h5 _ _ _ e1 o1 s1)
      · rw [List.getElem?_set_ne n2] at s2
        exact k.apart p q l' m b e1 e2 o1 o2 s1 s2
/-- a list that stands, held by a slot alone from now on -/
theorem Ok.take {a : Addr} {vs : List V} {l : List D} (i : Nat) (k : Ok K mg g B env S σ H) (h1 : S a = none) (h2 : Nn B.2 a) (h3 : a ∉ g.R) (h4 : H a = some (.lst vs)) (r : Reps K mg g S l vs)
    (h5 : ∀ (j : Nat) (b : Addr) (m : Slot), env[j]? = some m → m.holds = true → σ[j]? = some (some (.ref b)) → b ≠ a) : Ok K mg g B (env.set i (.own l)) S (σ.set i (some (.ref a))) H :=
  k.takeG i ⟨a, vs, rfl, h1, h2, h3, h4, r⟩ h5
theorem tabs_upd {T : List (Addr × Str)} {H : Hp} {a : Addr} {o u : HO} (t : LamX.Tabs T H) (h : H a = some o) (nt : ∀ ps, o ≠ .tbl ps) (nc : ∀ φ, o ≠ .ext φ) : LamX.Tabs T (upd H a u) := fun p hp => by
  obtain ⟨ps, h1, h2, h3⟩ := t p hp
  refine ⟨ps, by rw [upd_ne (fun q => by rw [q, h] at h1; exact nt ps (Option.some.inj h1))]; exact h1, h2, fun pos cv hc => ?_⟩
  obtain ⟨c, e1, e2⟩ := h3 pos cv hc
  refine ⟨c, e1, ?_⟩
  rw [upd_ne (fun q => ?_)]
  · exact e2
  · rw [q, h] at e2
    have z := Option.some.inj e2
    unfold LamX.CodeO at z
    exact nc _ z
theorem Mut.nx {o : HO} (h : Mut o) : ∀ φ, o ≠ .ext φ := by
  rcases h with ⟨_, rfl⟩ | ⟨_, rfl⟩ | ⟨_, rfl⟩ <;> exact fun _ z => (by cases z)
/-- the thing that a slot alone holds is written -/
theorem Ok.wrG {a : Addr} {s s' : Slot} {u : HO} {i : Nat} (k : Ok K mg g B env S σ H) (e : env[i]? = some s) (hs : s.holds = true) (sa : σ[i]? = some (some (.ref a))) (r : S a = none → Nn B.2 a → a ∉ g.R → SlotOk K mg g B S (upd H a u) s' (some (some (.ref a)))) (hs' : s'.holds = true) : Ok K mg g B (env.set i s') S σ (upd H a u) := by
  obtain ⟨a', w, h1, h2, h3, h4, h5, h6⟩ := (k.slots i _ e).at_ hs
  rw [sa] at h1
  have ea : a = a' := by simpa using h1
  subst ea
  have out : ∀ {b : Addr} {o : HO}, S b = some o → b ≠ a := fun {b o} z q => by
    rw [q, h2] at z
    cases z
  have il : i < env.length := (List.getElem?_eq_some_iff.mp e).1
  refine ⟨⟨k.frm.ss, fun b o z => ?_, fun b o z1 z2 z3 => ?_, fun b z => ?_, k.frm.nw, ?_, k.frm.rs, ?_, k.frm.nt, k.frm.kn⟩, by rw [List.length_set]; exact k.len, fun j t e' => ?_, fun p q l1 m1 b e1 e2 o1 o2 s1 s2 => ?_⟩
  · rw [upd_ne (out z)]
    exact k.frm.le b o z
  · rw [upd_ne (fun q => by rw [q] at z1; obtain ⟨ps, w⟩ := h3 o z1; exact z3 ps w)]
    exact k.frm.fr b o z1 z2 z3
  · by_cases q : b = a
    · rw [q, upd_same] at z
      cases z
    · rw [upd_ne q] at z
      exact k.frm.al b z
  · exact g.dwk _ _ (fun b hb => upd_ne fun q => h4 (by rw [← q]; exact hb)) k.frm.dw
  · exact tabs_upd k.frm.tb h5 h6.nt.2 h6.nx
  · rcases getset e' with ⟨rfl, rfl, _⟩ | ⟨ne, e'⟩
    · rw [sa]
      exact r h2 h3 h4
    · have z := k.slots j t e'
      cases ht : t.holds with
      | true =>
        obtain ⟨c, w2, y1, y2, y3, y4, y5, y6⟩ := z.at_ ht
        have nc : c ≠ a := fun q => by
          rw [q] at y1
          exact ne (k.apart i j s t a e e' hs ht sa y1)
        cases t with
        | un => cases ht
        | sh d => cases ht
        | own l =>
          obtain ⟨c2, vs, x1, x2, x3, x4, x5, x6⟩ := z
          rw [y1] at x1
          have ec : c = c2 := by simpa using x1
          subst ec
          exact ⟨c, vs, y1, x2, x3, x4, by rw [upd_ne nc]; exact x5, x6⟩
        | odc bk ks ws =>
          obtain ⟨c2, u2, us, x1, x2, x3, x4, x5, x6, x7⟩ := z
          rw [y1] at x1
          have ec : c = c2 := by simpa using x1
          subst ec
          exact ⟨c, u2, us, y1, x2, x3, x4, by rw [upd_ne nc]; exact x5, x6, x7⟩
      | false =>
        cases t with
        | un => trivial
        | sh d => exact z
        | own l => cases ht
        | odc bk ks ws => cases ht
  · have own1 : ∃ l2, env[p]? = some l2 ∧ l2.holds = true := by
      rcases getset e1 with ⟨rfl, _, _⟩ | ⟨_, e1⟩
      · exact ⟨_, e, hs⟩
      · exact ⟨_, e1, o1⟩
    have own2 : ∃ l2, env[q]? = some l2 ∧ l2.holds = true := by
      rcases getset e2 with ⟨rfl, _, _⟩ | ⟨_, e2⟩
      · exact ⟨_, e, hs⟩
      · exact ⟨_, e2, o2⟩
    obtain ⟨l2, w1, w2⟩ := own1
    obtain ⟨m2, w3, w4⟩ := own2
    exact k.apart p q l2 m2 b w1 w3 w2 w4 s1 s2
/-- the list that a slot alone holds is written -/
theorem Ok.wr {a : Addr} {vs : List V} {l l' : List D} {i : Nat} (k : Ok K mg g B env S σ H) (e : env[i]? = some (.own l)) (s : σ[i]? = some (some (.ref a))) (r : Reps K mg g S l' vs) : Ok K mg g B (env.set i (.own l')) S σ (upd H a (.lst vs)) :=
  k.wrG e rfl s (fun h1 h2 h3 => ⟨a, vs, rfl, h1, h2, h3, upd_same, r⟩) rfl
/-- the dict that a slot alone holds is written -/
theorem Ok.wrD {a : Addr} {us : List V} {bk : Bool} {ks ws ks' ws' : List D} {o : HO} {i : Nat} (k : Ok K mg g B env S σ H) (e : env[i]? = some (.odc bk ks ws)) (s : σ[i]? = some (some (.ref a))) (d : DicH bk ks' us o) (r : Reps K mg g S ws' us) : Ok K mg g B (env.set i (.odc bk ks' ws')) S σ (upd H a o) :=
  k.wrG e rfl s (fun h1 h2 h3 => ⟨a, o, us, rfl, h1, h2, h3, upd_same, d, r⟩) rfl
end

/-! ### expressions -/
@[simp] def eVar (i : Nat) : EM := fun env P _ => match env[i]? with
  | some (.sh d) => P d
  | _ => False
@[simp] def eC (d : D) : EM := fun _ P _ => P d
@[simp] def e1 (f : D → W D) (a : EM) : EM := fun env P Z => a env (fun x => f x P Z) Z
@[simp] def e2 (f : D → D → W D) (a b : EM) : EM := fun env P Z => a env (fun x => b env (fun y => f x y P Z) Z) Z
@[simp] def eIf (c : Ev → W Bool) (a b : EM) : EM := fun env P Z => c env (fun k => if k = true then a env P Z else b env P Z) Z
@[simp] def aNil : Ev → W (List D) := fun _ P _ => P []
@[simp] def aCons (a : EM) (r : Ev → W (List D)) : Ev → W (List D) := fun env P Z => a env (fun x => r env (fun xs => P (x :: xs)) Z) Z
@[simp] def eA (f : List D → W D) (a : Ev → W (List D)) : EM := fun env P Z => a env (fun xs => f xs P Z) Z
@[simp] def tru : D → Option Bool
  | .non => some false
  | .bl b => some b
  | .int i => some (i != 0)
  | .str x => if x.length ≤ 16777216 then some ((x.length : Int) != 0) else none
  | .tup l => some (!l.isEmpty)
  | .lst l => some (!l.isEmpty)
  | _ => none
@[simp] def tTru (a : EM) : Ev → W Bool := fun env P Z => a env (fun x => match tru x with
  | some k => P k
  | none => False) Z
@[simp] def tNt (c : Ev → W Bool) : Ev → W Bool := fun env P Z => c env (fun k => P (!k)) Z
@[simp] def tAn (c d : Ev → W Bool) : Ev → W Bool := fun env P Z => c env (fun k => if k = true then d env P Z else P false) Z
@[simp] def tOo (c d : Ev → W Bool) : Ev → W Bool := fun env P Z => c env (fun k => if k = true then P true else d env P Z) Z
@[simp] def eAnd (a b : EM) : EM := fun env P Z => a env (fun x => match tru x with
  | some k => if k = true then b env P Z else P x
  | none => False) Z
@[simp] def eOr (a b : EM) : EM := fun env P Z => a env (fun x => match tru x with
  | some k => if k = true then P x else b env P Z
  | none => False) Z
@[simp] def eNot (a : EM) : EM := fun env P Z => a env (fun x => match tru x with
  | some k => P (.bl (!k))
  | none => False) Z
@[simp] def eTup (a : Ev → W (List D)) : EM := fun env P Z => a env (fun xs => xs.length ≤ 16777216 ∧ P (.tup xs)) Z
@[simp] def eLst (a : Ev → W (List D)) : EM := fun env P Z => a env (fun xs => xs.length ≤ 16777216 ∧ P (.lst xs)) Z

/-- an operation upon values: by a reading of the hand layer -/
def Op2 (X : Cx) (g : Gd) (f : D → D → W D) (r : R2) : Prop := ∀ (a b : D) (x y : V) (B : Hp × Hp) (S H : Hp) (P : D → Prop) (Z : D → Prop) (Q : VK), Frm g B.1 B.2 S H → Rep X.K X.mg g S a x → Rep X.K X.mg g S b y → f a b P Z →
  (∀ d v S' H', P d → New S H S' H' → Rep X.K X.mg g S' d v → Q v H') → r x y H Q
def Op1 (X : Cx) (g : Gd) (f : D → W D) (r : V → Hp → VK → Prop) : Prop := ∀ (a : D) (x : V) (B : Hp × Hp) (S H : Hp) (P : D → Prop) (Z : D → Prop) (Q : VK), Frm g B.1 B.2 S H → Rep X.K X.mg g S a x → f a P Z →
  (∀ d v S' H', P d → New S H S' H' → Rep X.K X.mg g S' d v → Q v H') → r x H Q
def OpA (X : Cx) (g : Gd) (f : List D → W D) (r : List V → Hp → VK → Prop) : Prop := ∀ (as : List D) (xs : List V) (B : Hp × Hp) (S H : Hp) (P : D → Prop) (Z : D → Prop) (Q : VK), Frm g B.1 B.2 S H → Reps X.K X.mg g S as xs → f as P Z →
  (∀ d v S' H', P d → New S H S' H' → Rep X.K X.mg g S' d v → Q v H') → r xs H Q

section
variable {X : Cx} {g : Gd} {B : Hp × Hp} {E : XK} {a b c : Expr} {pos : Pos} {ma mb : EM} {mc md : Ev → W Bool} {ml : Ev → W (List D)} {es : List Expr}
theorem de_var {i : Nat} {x : Str} (hN : X.N[i]? = some x := by rfl) (hv : Vis X.env.scope x := by first | exact Or.inl rfl | exact Or.inr (Or.inl rfl) | exact Or.inr (Or.inr rfl)) (hd : (x == ("__debug__" : Str)) = false := by decide)
    (hcd : (x == ("__classdict__" : Str)) = false := by decide) : DE X g B E (.Name x pos) (eVar i) := by
  refine pe_imp (pe_var (i := i) hN hv hd hcd) fun σ H Q h => ?_
  obtain ⟨env, S, P, Z, ok, hm, k, kx⟩ := h
  unfold eVar at hm
  cases e : env[i]? with
  | none =>
    rw [e] at hm
    exact hm.elim
  | some s =>
    rw [e] at hm
    have q := ok.slots i s e
    cases s with
    | un => exact hm.elim
    | own l => exact hm.elim
    | odc bk ks ws => exact hm.elim
    | sh d =>
      obtain ⟨v, h1, h2⟩ := q
      exact ⟨v, h1, k d v S H hm ok (Ex.rf _) h2⟩
theorem de_c {d : D} {v : V} {e : Expr} (h : PE X e (tC v)) (r : ∀ S, Rep X.K X.mg g S d v) : DE X g B E e (eC d) := by
  refine pe_imp h fun σ H Q h => ?_
  obtain ⟨env, S, P, Z, ok, hm, k, kx⟩ := h
  exact k d v S H hm ok (Ex.rf _) (r S)
theorem de_int {i : Int} {j : Nat} : DE X g B E (.Constant (.int i) j pos) (eC (.int i)) := de_c pe_int fun S => by unfold Rep; rfl
theorem de_bl {i : Bool} {j : Nat} : DE X g B E (.Constant (.bool i) j pos) (eC (.bl i)) := de_c pe_bl fun S => by unfold Rep; rfl
theorem de_non {j : Nat} : DE X g B E (.Constant .none j pos) (eC .non) := de_c pe_non fun S => by unfold Rep; rfl
theorem de_str {x : Str} {j : Nat} : DE X g B E (.Constant (.str x) j pos) (eC (.str x)) := de_c pe_str fun S => by unfold Rep; rfl
/-- a def of the module as a value -/
theorem de_fn {x : Str} {f : Addr} (hg : Gl X x) (hm : X.mg x = some (.ref f)) (hd : (x == ("__debug__" : Str)) = false := by decide) : DE X g B E (.Name x pos) (eC (.fn x)) :=
  de_c (pe_glob (v := .ref f) hg hm rfl hd) fun S => by unfold Rep; exact ⟨f, rfl, hm⟩
/-- an int of the module -/
theorem de_gi {x : Str} {i : Int} {t : Tok} (hg : Gl X x) (hm : X.mg x = some (.int i t)) (hd : (x == ("__debug__" : Str)) = false := by decide) : DE X g B E (.Name x pos) (eC (.int i)) :=
  de_c (pe_glob (v := .int i) hg hm ⟨t, rfl⟩ hd) fun S => by unfold Rep; rfl
theorem run2 {f : D → D → W D} {r : R2} (hf : Op2 X g f r) {σ : L2.St} {H : Hp} {Q : VK} (h : clo X g B E (e2 f ma mb) σ H Q) : tOp r (clo X g B E ma) (clo X g B E mb) σ H Q := by
  obtain ⟨env, S, P, Z, ok, hm, k, kx⟩ := h
  refine ⟨env, S, _, Z, ok, hm, fun da x S1 H1 p1 ok1 e1 r1 => ?_, kx⟩
  refine ⟨env, S1, _, Z, ok1, p1, fun db y S2 H2 p2 ok2 e2 r2 => ?_, kx⟩
  exact hf da db x y B S2 H2 P Z Q ok2.frm (r1.mono e2) r2 p2 fun d v S3 H3 p3 n r3 => k d v S3 H3 p3 (ok2.new n) ((e1.tr e2).tr n.ss) r3
theorem de_op {op : Operator} {f : D → D → W D} {r : R2} (ho : OpR X (binaryOp op) r) (hf : Op2 X g f r) (ha : DE X g B E a ma) (hb : DE X g B E b mb) : DE X g B E (.BinOp a op b pos) (e2 f ma mb) :=
  pe_imp (pe_op ho ha hb) fun _ _ _ h => run2 hf h
theorem de_cmp {op : CmpOp} {f : D → D → W D} {r : R2} (ho : OpR X (compareOp op) r) (hf : Op2 X g f r) (ha : DE X g B E a ma) (hb : DE X g B E b mb) (hm : behindInMarks op b = false := by first | exact nomark _ (by decide) (by decide) | rfl) :
    DE X g B E (.Compare a [op] [b] pos) (e2 f ma mb) := pe_imp (pe_cmpR ho ha hb hm) fun _ _ _ h => run2 hf h
theorem de_un {op : UnaryOp} {f : D → W D} {r : V → Hp → VK → Prop} (ho : UnR X (unaryOp op) r) (hf : Op1 X g f r) (ha : DE X g B E a ma) : DE X g B E (.UnaryOp op a pos) (e1 f ma) := by
  refine pe_imp (pe_un ho ha) fun σ H Q h => ?_
  obtain ⟨env, S, P, Z, ok, hm, k, kx⟩ := h
  exact ⟨env, S, _, Z, ok, hm, fun da x S1 H1 p1 ok1 e1 r1 => hf da x B S1 H1 P Z Q ok1.frm r1 p1 fun d v S3 H3 p3 n r3 => k d v S3 H3 p3 (ok1.new n) (e1.tr n.ss) r3, kx⟩
theorem dt_of {e : Expr} {t : TE} {ts : TT} {m : EM} (hp : PT X e ts) (hi : ∀ σ H (Q : Bool → Hp → Prop), clo X g B E m σ H (fun v H' => ∃ k, v = .bl k ∧ Q k H') → ts σ H Q) : DT X g B E e (fun env P Z => m env (fun d => match d with
  | .bl k => P k
  | _ => False) Z) := by
  refine pt_imp hp fun σ H Q h => hi σ H Q ?_
  obtain ⟨env, S, P, Z, ok, hm, k, kx⟩ := h
  refine ⟨env, S, _, Z, ok, hm, fun d v S' H' p ok' ex r => ?_, kx⟩
  cases d <;> first
    | exact p.elim
    | (unfold Rep at r; exact ⟨_, r, k _ S' H' p ok' ex⟩)
@[simp] def tBo (a : EM) : Ev → W Bool := fun env P Z => a env (fun d => match d with
  | .bl k => P k
  | _ => False) Z
theorem dt_cmp {op : CmpOp} {f : D → D → W D} {r : R2} (ho : OpR X (compareOp op) r) (hf : Op2 X g f r) (ha : DE X g B E a ma) (hb : DE X g B E b mb) (hm : behindInMarks op b = false := by first | exact nomark _ (by decide) (by decide) | rfl) :
    DT X g B E (.Compare a [op] [b] pos) (tBo (e2 f ma mb)) := dt_of (t := clo X g B E (e2 f ma mb)) (pt_cmpR ho ha hb hm) fun _ _ _ h => run2 hf h
theorem truV_of {S H : Hp} {d : D} {v : V} {k : Bool} (l : Le S H) (r : Rep X.K X.mg g S d v) (e : tru d = some k) : TruV X.K v H k := by
  cases d with
  | non =>
    unfold Rep at r
    subst r
    exact (Option.some.inj e).symm
  | bl b =>
    unfold Rep at r
    subst r
    exact (Option.some.inj e).symm
  | int i =>
    unfold Rep at r
    subst r
    exact (Option.some.inj e).symm
  | str x =>
    unfold Rep at r
    subst r
    have e' : (if x.length ≤ 16777216 then some ((x.length : Int) != 0) else none) = some k := e
    by_cases h : x.length ≤ 16777216
    · rw [if_pos h] at e'
      exact ⟨by rw [sizeLine_eq]; exact h, (Option.some.inj e').symm⟩
    · rw [if_neg h] at e'
      cases e'
  | tup l' =>
    unfold Rep at r
    obtain ⟨p, vs, rfl, h2, h3⟩ := r
    refine .inr (.inl ⟨vs, l.sqT h2, ?_⟩)
    rw [← Option.some.inj e]
    have z := h3.len
    cases l' <;> cases vs <;> first | rfl | (simp at z)
  | lst l' =>
    unfold Rep at r
    obtain ⟨p, vs, rfl, h2, h3⟩ := r
    refine .inl ⟨vs, l.sqL (SqL.of h2), ?_⟩
    rw [← Option.some.inj e]
    have z := h3.len
    cases l' <;> cases vs <;> first | rfl | (simp at z)
  | fn x => cases e
  | ty x => cases e
  | exc x ns ds => cases e
  | ins x ns ds => cases e
  | dic ks ws => cases e
  | drw => cases e
  | scr l => cases e
  | opq a => cases e
theorem dt_tru (ha : DE X g B E a ma) (he : ∀ whole, isTrue a X.env whole = (do let v ← whole; standAt a.pos; holding [v] (truthy v)) := by intro _; rfl) : DT X g B E a (tTru ma) := by
  refine pt_imp (pt_truth ha he) fun σ H Q h => ?_
  obtain ⟨env, S, P, Z, ok, hm, k, kx⟩ := h
  refine ⟨env, S, _, Z, ok, hm, fun d v S' H' p ok' ex r => ?_, kx⟩
  cases e : tru d with
  | none =>
    rw [e] at p
    exact p.elim
  | some kk =>
    rw [e] at p
    exact ⟨kk, truV_of ok'.frm.le r e, k kk S' H' p ok' ex⟩
theorem dt_not (h : DT X g B E a mc) : DT X g B E (.UnaryOp .Not a pos) (tNt mc) := by
  refine pt_imp (pt_not h) fun σ H Q h => ?_
  obtain ⟨env, S, P, Z, ok, hm, k, kx⟩ := h
  exact ⟨env, S, _, Z, ok, hm, fun b S' H' p ok' ex => k _ S' H' p ok' ex, kx⟩
def DW (X : Cx) (g : Gd) (B : Hp × Hp) (E : XK) (e : Expr) (m : Ev → W Bool) : Prop := PW X e (cloT X g B E m)
theorem pw_imp {X : Cx} {e : Expr} {t u : TT} (h : PW X e t) (i : ∀ σ H Q, u σ H Q → t σ H Q) : PW X e u := ⟨fun w pins s σ H Q I q => h.run w pins s σ H Q I (i σ H Q q)⟩
theorem dw_t (h : DW X g B E a mc) : DT X g B E a mc := h.pt
theorem dw_and1 (h : DT X g B E a mc) : DW X g B E (.BoolOp .And [a] pos) mc := pw_and1 h
theorem dw_or1 (h : DT X g B E a mc) : DW X g B E (.BoolOp .Or [a] pos) mc := pw_or1 h
theorem dw_and {r : List Expr} (h : DT X g B E a mc) (h2 : DW X g B E (.BoolOp .And (b :: r) pos) md) : DW X g B E (.BoolOp .And (a :: b :: r) pos) (tAn mc md) := by
  refine pw_imp (pw_and h h2) fun σ H Q h => ?_
  obtain ⟨env, S, P, Z, ok, hm, k, kx⟩ := h
  refine ⟨env, S, _, Z, ok, hm, fun b S' H' p ok' ex => ?_, kx⟩
  cases b with
  | true => exact ⟨env, S', P, Z, ok', p, fun c S2 H2 p2 ok2 ex2 => k c S2 H2 p2 ok2 (ex.tr ex2), kx⟩
  | false => exact k false S' H' p ok' ex
theorem dw_or {r : List Expr} (h : DT X g B E a mc) (h2 : DW X g B E (.BoolOp .Or (b :: r) pos) md) : DW X g B E (.BoolOp .Or (a :: b :: r) pos) (tOo mc md) := by
  refine pw_imp (pw_or h h2) fun σ H Q h => ?_
  obtain ⟨env, S, P, Z, ok, hm, k, kx⟩ := h
  refine ⟨env, S, _, Z, ok, hm, fun b S' H' p ok' ex => ?_, kx⟩
  cases b with
  | false => exact ⟨env, S', P, Z, ok', p, fun c S2 H2 p2 ok2 ex2 => k c S2 H2 p2 ok2 (ex.tr ex2), kx⟩
  | true => exact k true S' H' p ok' ex
theorem de_one {op : PySem.BoolOp} (h : DE X g B E a ma) : DE X g B E (.BoolOp op [a] pos) ma := pe_one h
theorem de_and {r : List Expr} (ha : DE X g B E a ma) (hb : DE X g B E (.BoolOp .And (b :: r) pos) mb) : DE X g B E (.BoolOp .And (a :: b :: r) pos) (eAnd ma mb) := by
  refine pe_imp (pe_andT ha hb) fun σ H Q h => ?_
  obtain ⟨env, S, P, Z, ok, hm, k, kx⟩ := h
  refine ⟨env, S, _, Z, ok, hm, fun d v S' H' p ok' ex r => ?_, kx⟩
  cases e : tru d with
  | none =>
    rw [e] at p
    exact p.elim
  | some kk =>
    rw [e] at p
    refine ⟨kk, truV_of ok'.frm.le r e, ?_⟩
    cases kk with
    | true => exact ⟨env, S', P, Z, ok', p, fun c w S2 H2 p2 ok2 ex2 r2 => k c w S2 H2 p2 ok2 (ex.tr ex2) r2, kx⟩
    | false => exact k d v S' H' p ok' ex r
theorem de_or {r : List Expr} (ha : DE X g B E a ma) (hb : DE X g B E (.BoolOp .Or (b :: r) pos) mb) : DE X g B E (.BoolOp .Or (a :: b :: r) pos) (eOr ma mb) := by
  refine pe_imp (pe_orT ha hb) fun σ H Q h => ?_
  obtain ⟨env, S, P, Z, ok, hm, k, kx⟩ := h
  refine ⟨env, S, _, Z, ok, hm, fun d v S' H' p ok' ex r => ?_, kx⟩
  cases e : tru d with
  | none =>
    rw [e] at p
    exact p.elim
  | some kk =>
    rw [e] at p
    refine ⟨kk, truV_of ok'.frm.le r e, ?_⟩
    cases kk with
    | false => exact ⟨env, S', P, Z, ok', p, fun c w S2 H2 p2 ok2 ex2 r2 => k c w S2 H2 p2 ok2 (ex.tr ex2) r2, kx⟩
    | true => exact k d v S' H' p ok' ex r
theorem de_not (ha : DE X g B E a ma) : DE X g B E (.UnaryOp .Not a pos) (eNot ma) := by
  refine pe_imp (pe_notT ha) fun σ H Q h => ?_
  obtain ⟨env, S, P, Z, ok, hm, k, kx⟩ := h
  refine ⟨env, S, _, Z, ok, hm, fun d v S' H' p ok' ex r => ?_, kx⟩
  cases e : tru d with
  | none =>
    rw [e] at p
    exact p.elim
  | some kk =>
    rw [e] at p
    exact ⟨kk, truV_of ok'.frm.le r e, k (.bl (!kk)) _ S' H' p ok' ex (by unfold Rep; rfl)⟩
theorem de_if (hc : DT X g B E c mc) (ha : DE X g B E a ma) (hb : DE X g B E b mb) : DE X g B E (.IfExp c a b pos) (eIf mc ma mb) := by
  refine pe_imp (pe_ifExp hc ha hb) fun σ H Q h => ?_
  obtain ⟨env, S, P, Z, ok, hm, k, kx⟩ := h
  refine ⟨env, S, _, Z, ok, hm, fun b S' H' p ok' ex => ?_, kx⟩
  cases b with
  | true => exact ⟨env, S', P, Z, ok', p, fun c w S2 H2 p2 ok2 ex2 r2 => k c w S2 H2 p2 ok2 (ex.tr ex2) r2, kx⟩
  | false => exact ⟨env, S', P, Z, ok', p, fun c w S2 H2 p2 ok2 ex2 r2 => k c w S2 H2 p2 ok2 (ex.tr ex2) r2, kx⟩
theorem da_nil : DAr X g B E [] aNil := pa_imp pa_nil fun σ H Q h => by
  obtain ⟨env, S, P, Z, ok, hm, k, kx⟩ := h
  exact k [] [] S H hm ok (Ex.rf _) Reps.nil
theorem da_cons (ha : DE X g B E a ma) (hr : DAr X g B E es ml) (hs : isStar a = false := by rfl) : DAr X g B E (a :: es) (aCons ma ml) := by
  refine pa_imp (pa_cons ha hr (st_one hs)) fun σ H Q h => ?_
  obtain ⟨env, S, P, Z, ok, hm, k, kx⟩ := h
  refine ⟨env, S, _, Z, ok, hm, fun d v S' H' p ok' ex r => ?_, kx⟩
  exact ⟨env, S', _, Z, ok', p, fun ds vs S2 H2 p2 ok2 ex2 r2 => k _ _ S2 H2 p2 ok2 (ex.tr ex2) (Reps.cons (r.mono ex2) r2), kx⟩
theorem de_tup {x1 : Nat} (h : DAr X g B E es ml) : DE X g B E (.Tuple es x1 pos) (eTup ml) := by
  refine pe_imp (pe_tup h) fun σ H Q h => ?_
  obtain ⟨env, S, P, Z, ok, hm, k, kx⟩ := h
  refine ⟨env, S, _, Z, ok, hm, fun ds vs S' H' p ok' ex r => ?_, kx⟩
  obtain ⟨hl, p⟩ := p
  refine ⟨by rw [← r.len, sizeLine_eq]; exact hl, fun q hq => ?_⟩
  have n := New.add (o := .tup vs) ok'.frm.le hq (fun ps z => by cases z)
  exact k (.tup ds) _ _ _ p (ok'.new n) (ex.tr n.ss) (by unfold Rep; exact ⟨q, vs, rfl, upd_same, r.mono n.ss⟩)
theorem de_lst (h : DAr X g B E es ml) : DE X g B E (.List es pos) (eLst ml) := by
  refine pe_imp (pe_lst h) fun σ H Q h => ?_
  obtain ⟨env, S, P, Z, ok, hm, k, kx⟩ := h
  refine ⟨env, S, _, Z, ok, hm, fun ds vs S' H' p ok' ex r => ?_, kx⟩
  obtain ⟨hl, p⟩ := p
  refine ⟨by rw [← r.len, sizeLine_eq]; exact hl, fun q hq => ?_⟩
  have n := New.add (o := .lst vs) ok'.frm.le hq (fun ps z => by cases z)
  exact k (.lst ds) _ _ _ p (ok'.new n) (ex.tr n.ss) (by unfold Rep; exact ⟨q, vs, rfl, upd_same, r.mono n.ss⟩)
/-- a built-in function, by its name -/
theorem de_b {x : Str} {p : Pos} {id : String} {f : List D → W D} {r : List V → Hp → VK → Prop} (hc : CallR X (.builtin id) r) (hf : OpA X g f r) (hg : Gl X x) (hm : X.mg x = none) (hv : bootBuiltins x = some (.builtin id)) (ha : DAr X g B E (a :: es) ml)
    (hn : x ≠ "__name__" := by decide) (hdb : (x == ("__debug__" : Str)) = false := by decide)
    (hst : noStar (a :: es) = true := by rfl) : DE X g B E (.Call (.Name x p) (a :: es) [] pos) (eA f ml) := by
  refine pe_imp (pe_callB hc hg hm hv ha hn hdb (st_cons hst) (st_any hst)) fun σ H Q h => ?_
  obtain ⟨env, S, P, Z, ok, hm, k, kx⟩ := h
  exact ⟨env, S, _, Z, ok, hm, fun ds vs S' H' p ok' ex r => hf ds vs B S' H' P Z Q ok'.frm r p fun d v S3 H3 p3 n r3 => k d v S3 H3 p3 (ok'.new n) (ex.tr n.ss) r3, kx⟩
theorem de_ty {x : Str} {p : Pos} {T : String} {f : List D → W D} {r : List V → Hp → VK → Prop} (hc : CallR X (.type T) r) (hf : OpA X g f r) (hg : Gl X x) (hm : X.mg x = none) (hv : bootBuiltins x = some (.type T)) (ha : DAr X g B E (a :: es) ml)
    (hn : x ≠ "__name__" := by decide) (hdb : (x == ("__debug__" : Str)) = false := by decide)
    (hst : noStar (a :: es) = true := by rfl) : DE X g B E (.Call (.Name x p) (a :: es) [] pos) (eA f ml) := by
  refine pe_imp (pe_callTy hc hg hm hv ha hn hdb (st_cons hst) (st_any hst)) fun σ H Q h => ?_
  obtain ⟨env, S, P, Z, ok, hm, k, kx⟩ := h
  exact ⟨env, S, _, Z, ok, hm, fun ds vs S' H' p ok' ex r => hf ds vs B S' H' P Z Q ok'.frm r p fun d v S3 H3 p3 n r3 => k d v S3 H3 p3 (ok'.new n) (ex.tr n.ss) r3, kx⟩
end
end DL

set_option Elab.async false
set_option linter.all false
set_option maxRecDepth 100000
set_option maxHeartbeats 2000000
/-! DC: what is walked; comprehensions; statements; loops. -/
namespace DL
open PySem PySem.Spec PyProof.Rows L2

/-! ### frames, further -/
section
variable {g : Gd} {S0 H0 S H S' H' : Hp} {D : Addr}
theorem notR {H : Hp} (d : g.dw H) {a : Addr} (n : H a = none) : a ∉ g.R := fun h => by
  obtain ⟨u, hu, _⟩ := g.dwa _ d a h
  rw [n] at hu
  cases hu
theorem Frm.wr {us vs : List V} (f : Frm g S0 H0 S H) (h1 : S D = none) (h2 : Nn H0 D) (h3 : D ∉ g.R) (h4 : H D = some (.lst us)) : Frm g S0 H0 S (upd H D (.lst vs)) where
  ss := f.ss
  le := fun b o z => by
    rw [upd_ne (fun q => by rw [q, h1] at z; cases z)]
    exact f.le b o z
  fr := fun b o z1 z2 z3 => by
    rw [upd_ne (fun q => by rw [q] at z1; obtain ⟨ps, w⟩ := h2 o z1; exact z3 ps w)]
    exact f.fr b o z1 z2 z3
  al := fun b z => by
    by_cases q : b = D
    · rw [q, upd_same] at z
      cases z
    · rw [upd_ne q] at z
      exact f.al b z
  nw := f.nw
  dw := g.dwk _ _ (fun b hb => upd_ne fun q => h3 (by rw [← q]; exact hb)) f.dw
  rs := f.rs
  tb := tabs_lst f.tb h4
  nt := f.nt
  kn := f.kn
/-- a new object of ours is known for good from now on -/
theorem Frm.adopt {o : HO} (f : Frm g S0 H0 S H) (h1 : S D = none) (h2 : Nn H0 D) (h3 : D ∉ g.R) (h4 : H D = some o) (h5 : ∀ ps, o ≠ .tbl ps) : Frm g S0 H0 (upd S D o) H where
  ss := fun b u z => by
    rw [upd_ne (fun q => by rw [q] at z; have := f.ss _ _ z; rw [h1] at this; cases this)]
    exact f.ss b u z
  le := fun b u z => by
    by_cases q : b = D
    · rw [q, upd_same] at z
      rw [q]
      exact .inl (by rw [← z]; exact h4)
    · rw [upd_ne q] at z
      exact f.le b u z
  fr := f.fr
  al := f.al
  nw := fun b u z => by
    by_cases q : b = D
    · rw [q]
      exact .inr (.inl h2)
    · rw [upd_ne q] at z
      exact f.nw b u z
  dw := f.dw
  rs := fun b hb => by
    rw [upd_ne (fun q => h3 (by rw [← q]; exact hb))]
    exact f.rs b hb
  tb := f.tb
  nt := fun b ps z => by
    by_cases q : b = D
    · rw [q, upd_same] at z
      exact h5 ps (Option.some.inj z)
    · rw [upd_ne q] at z
      exact f.nt b ps z
  kn := fun b u z => by
    have y := f.kn b u z
    rw [upd_ne (fun q => by rw [q, h1] at y; cases y)]
    exact y
end

/-! ### a comprehension's slots -/
@[simp] def noOwn : Slot → Slot
  | .own _ => .un
  | .odc _ _ _ => .un
  | s => s
@[simp] def blkE (own : List Nat) (env : Ev) : Ev := kilE own (env.map noOwn)
theorem wipe_get {σ : L2.St} (i : Nat) : ∀ vs : List Nat, (L2.wipe σ vs)[i]? = if i ∈ vs ∧ i < σ.length then some none else σ[i]?
  | [] => by
    unfold L2.wipe
    rw [if_neg (fun h => by simpa using h.1)]
  | v :: r => by
    unfold L2.wipe
    by_cases hv : v = i
    · subst hv
      by_cases hl : v < σ.length
      · rw [List.getElem?_set_self (by rw [wipe_length]; exact hl), if_pos ⟨List.mem_cons_self, hl⟩]
      · rw [if_neg (fun h => hl h.2), List.getElem?_eq_none (by rw [List.length_set, wipe_length]; omega), List.getElem?_eq_none (by omega)]
    · rw [List.getElem?_set_ne hv, wipe_get i r]
      by_cases h : i ∈ r ∧ i < σ.length
      · rw [if_pos h, if_pos ⟨List.mem_cons_of_mem _ h.1, h.2⟩]
      · rw [if_neg h, if_neg (fun z => h ⟨(List.mem_cons.mp z.1).resolve_left (fun q => hv q.symm), z.2⟩)]
theorem wipe_same {σ τ : L2.St} {vs : List Nat} (h : ∀ i, i ∉ vs → τ[i]? = (L2.wipe σ vs)[i]?) (hl : τ.length = (L2.wipe σ vs).length) : L2.wipe τ vs = L2.wipe σ vs := by
  apply List.ext_getElem?
  intro i
  rw [wipe_get]
  rw [wipe_length] at hl
  by_cases q : i ∈ vs
  · by_cases z : i < σ.length
    · rw [if_pos ⟨q, by omega⟩, wipe_get, if_pos ⟨q, z⟩]
    · rw [if_neg (fun y => z (by have := y.2; omega)), wipe_get, if_neg (fun y => z y.2), List.getElem?_eq_none (by omega), List.getElem?_eq_none (by omega)]
  · rw [if_neg (fun y => q y.1)]
    exact h i q
section
variable {K : PySem.W.Frag} {mg : Str → Option Value} {g : Gd} {B : Hp × Hp} {env : Ev} {S S' : Hp} {σ : L2.St} {H H' : Hp}
theorem Ok.noOwn (k : Ok K mg g B env S σ H) : Ok K mg g (S, H) (env.map DL.noOwn) S σ H where
  frm := k.frm.rf
  len := by rw [List.length_map]; exact k.len
  slots := fun i s e => by
    rw [List.getElem?_map] at e
    cases q : env[i]? with
    | none =>
      rw [q] at e
      cases e
    | some t =>
      rw [q] at e
      have e' : DL.noOwn t = s := by simpa using e
      subst e'
      have z := k.slots i t q
      cases t with
      | un => trivial
      | own l => trivial
      | odc bk ks ws => trivial
      | sh d => exact z
  apart := fun i j l m a e _ ol _ _ _ => by
    rw [List.getElem?_map] at e
    cases q : env[i]? with
    | none =>
      rw [q] at e
      cases e
    | some t =>
      rw [q] at e
      have e' : DL.noOwn t = l := by simpa using e
      subst e'
      cases t <;> cases ol
theorem Ok.blk (k : Ok K mg g B env S σ H) (own : List Nat) : Ok K mg g (S, H) (blkE own env) S (L2.wipe σ own) H := k.noOwn.wipe own
end

/-! ### targets -/
structure TgOk (X : Cx) (g : Gd) (gT : TG) (T : D → Ev → Option Ev) (vs : List Nat) : Prop where
  run : ∀ (B : Hp × Hp) (d : D) (x : V) (σ : L2.St) (H : Hp) (env env' : Ev) (S : Hp) (Q : L2.St → Hp → Prop), Ok X.K X.mg g B env S σ H → Rep X.K X.mg g S d x → T d env = some env' →
    (∀ σ', Ok X.K X.mg g B env' S σ' H → (∀ i, i ∉ vs → σ'[i]? = σ[i]?) → σ'.length = σ.length → Q σ' H) → gT x σ H Q
@[simp] def tgN (i : Nat) : D → Ev → Option Ev := fun d env => some (env.set i (.sh d))
@[simp] def tg2 (i j : Nat) : D → Ev → Option Ev := fun d env => match d with
  | .tup [a, b] => some ((env.set i (.sh a)).set j (.sh b))
  | _ => none
@[simp] def tg3 (i j k : Nat) : D → Ev → Option Ev := fun d env => match d with
  | .tup [a, b, c] => some (((env.set i (.sh a)).set j (.sh b)).set k (.sh c))
  | _ => none
section
variable {X : Cx} {g : Gd}
theorem tgN_ok (i : Nat) : TgOk X g (gName i) (tgN i) [i] := ⟨fun B d x σ H env env' S Q ok r e h => by
  have e' := Option.some.inj e
  subst e'
  exact h _ (ok.set i r) (fun j hj => by rw [List.getElem?_set_ne (fun q => hj (by rw [q]; exact List.mem_singleton.mpr rfl))]) (by rw [List.length_set])⟩
theorem tg2_ok (i j : Nat) : TgOk X g (gTup X.K 2 (gCons (gName i) (gCons (gName j) gNil))) (tg2 i j) [i, j] := ⟨fun B d x σ H env env' S Q ok r e h => by
  unfold tg2 at e
  split at e
  · rename_i a b
    have e' := Option.some.inj e
    subst e'
    unfold Rep at r
    obtain ⟨p, vs, h1, h2, h3⟩ := r
    unfold Reps at h3
    obtain ⟨w, ws, rfl, r1, h3⟩ := h3
    unfold Reps at h3
    obtain ⟨w2, ws2, rfl, r2, h3⟩ := h3
    unfold Reps at h3
    subst h3
    refine ⟨p, [w, w2], h1, ok.frm.le.sqT h2, rfl, w, [w2], rfl, w2, [], rfl, rfl, ?_⟩
    refine h _ ((ok.set i r1).set j r2) (fun k hk => ?_) (by rw [List.length_set, List.length_set])
    rw [List.getElem?_set_ne (fun q => hk (by rw [q]; simp)), List.getElem?_set_ne (fun q => hk (by rw [q]; simp))]
  · cases e⟩
theorem tg3_ok (i j k : Nat) : TgOk X g (gTup X.K 3 (gCons (gName i) (gCons (gName j) (gCons (gName k) gNil)))) (tg3 i j k) [i, j, k] := ⟨fun B d x σ H env env' S Q ok r e h => by
  unfold tg3 at e
  split at e
  · rename_i a b c
    have e' := Option.some.inj e
    subst e'
    unfold Rep at r
    obtain ⟨p, vs, h1, h2, h3⟩ := r
    unfold Reps at h3
    obtain ⟨w, ws, rfl, r1, h3⟩ := h3
    unfold Reps at h3
    obtain ⟨w2, ws2, rfl, r2, h3⟩ := h3
    unfold Reps at h3
    obtain ⟨w3, ws3, rfl, r3, h3⟩ := h3
    unfold Reps at h3
    subst h3
    refine ⟨p, [w, w2, w3], h1, ok.frm.le.sqT h2, rfl, w, [w2, w3], rfl, w2, [w3], rfl, w3, [], rfl, rfl, ?_⟩
    refine h _ (((ok.set i r1).set j r2).set k r3) (fun n hn => ?_) (by rw [List.length_set, List.length_set, List.length_set])
    rw [List.getElem?_set_ne (fun q => hn (by rw [q]; simp)), List.getElem?_set_ne (fun q => hn (by rw [q]; simp)), List.getElem?_set_ne (fun q => hn (by rw [q]; simp))]
  · cases e⟩
end

/-! ### what is walked -/
/-- J yields what stands for ds, one after the other, wherever the stable part still lies -/
def ItOk (K : PySem.W.Frag) (mg : Str → Option Value) (g : Gd) (S : Hp) (J : It) (ds : List D) : Prop := ∀ (i : Nat) (S2 H2 : Hp), Ex S S2 → Le S2 H2 →
  (∀ d, ds[i]? = some d → J.go i H2 ∧ ∀ x H3, J.yld i H2 x H3 → ∃ S3, New S2 H2 S3 H3 ∧ Rep K mg g S3 d x) ∧ (ds[i]? = none → J.stop i H2)
/-- the same, while nothing that stood changes -/
def ItOk2 (K : PySem.W.Frag) (mg : Str → Option Value) (g : Gd) (S H : Hp) (J : It) (ds : List D) : Prop := ∀ (i : Nat) (S2 H2 : Hp), Ex S S2 → Le S2 H2 → (∀ a o, H a = some o → a ∉ g.R → (∀ ps, o ≠ .tbl ps) → H2 a = some o) →
  (∀ d, ds[i]? = some d → J.go i H2 ∧ ∀ x H3, J.yld i H2 x H3 → ∃ S3, New S2 H2 S3 H3 ∧ Rep K mg g S3 d x) ∧ (ds[i]? = none → J.stop i H2)
theorem ItOk.two {K : PySem.W.Frag} {mg : Str → Option Value} {g : Gd} {S H : Hp} {J : It} {ds : List D} (h : ItOk K mg g S J ds) : ItOk2 K mg g S H J ds := fun i S2 H2 e l _ => h i S2 H2 e l
section
variable (X : Cx) (g : Gd) (B : Hp × Hp) (E : XK)
def cloI (m : Ev → W (List D)) : TI := fun σ H R => ∃ env S P Z, Ok X.K X.mg g B env S σ H ∧ m env P Z ∧
  (∀ ds J S' H', P ds → Ok X.K X.mg g B env S' σ H' → Ex S S' → ItOk X.K X.mg g S' J ds → R J H') ∧
  (∀ x cls dx S' H', Z x → Frm g B.1 B.2 S' H' → RepX X.K X.mg g S' cls dx x → E cls dx H')
def DI (tg iter : Expr) (m : Ev → W (List D)) : Prop := PI X tg iter (cloI X g B E m)
end
theorem pi_imp {X : Cx} {tg e : Expr} {t u : TI} (h : PI X tg e t) (i : ∀ σ H R, u σ H R → t σ H R) : PI X tg e u := ⟨fun pins s σ H R I q => h.run pins s σ H R I (i σ H R q)⟩
/-- a list or a tuple -/
def iSeq (K : PySem.W.Frag) (tl : TE) : TI := fun σ H R => tl σ H fun x H1 => ∃ a, x = .ref a ∧ (((∃ xs, SqL K H1 a xs) ∧ R (Itl K a) H1) ∨ ((∃ xs, SqT K H1 a xs) ∧ R (Itt K a) H1))
theorem pi_seq {X : Cx} {tg l : Expr} {tl : TE} (hl : PE X l tl) : PI X tg l (iSeq X.K tl) := by
  refine ⟨fun pins s σ H R I h => thn (hl.run pins s σ H _ I h) fun v s1 ⟨x, H1, I1, r1, a, e, q⟩ => ?_⟩
  subst e
  obtain rfl : v = Value.ref a := r1
  have old : ∀ (ob : Obj) b o, s1.heap.get? b = some o → (s1.heap.push ob).get? b = some o := fun ob b o e => Heap.get?_push_of_some _ e
  have fp : ∀ b ∈ [s1.heap.objs.size], FpOk X pins H1 b := fun b hb => by
    rw [List.mem_singleton.mp hb]
    exact I1.fpOk (Nat.le_refl _) (I1.hok.fresh (Nat.le_refl _))
  rcases q with ⟨⟨xs, hq⟩, q⟩ | ⟨⟨xs, hq⟩, q⟩
  · obtain ⟨its, rv, p, hz⟩ := I1.list hq
    exact wpAny_pyIter_list p.isList ⟨_, [s1.heap.objs.size], _, _, H1, rfl, I1.kept (t' := s1.toks) (old _), turn_list a _, ⟨_, Heap.get?_push_size _ rfl, rfl, rfl⟩, fp, q⟩
  · obtain ⟨its, rv, p, hz⟩ := I1.tuple hq
    exact wpAny_pyIter_tuple (show s1.heap.IsTuple a its.toArray from p) ⟨_, [s1.heap.objs.size], _, _, H1, rfl, I1.kept (t' := s1.toks) (old _), turn_tuple a _, ⟨_, Heap.get?_push_size _ rfl, rfl, rfl⟩, fp, q⟩
@[simp] def iOf (a : EM) : Ev → W (List D) := fun env P Z => a env (fun d => match d with
  | .lst l => P l
  | .tup l => P l
  | .scr l => P (l.map D.int)
  | _ => False) Z
def rgD (lo : Int) (n : Nat) : List D := (List.range n).map fun (k : Nat) => D.int (lo + (k : Int))
@[simp] def iRg1 (a : EM) : Ev → W (List D) := fun env P Z => a env (fun d => match d with
  | .int n => (-(2 ^ 62) ≤ n ∧ n < 2 ^ 62) ∧ P (rgD 0 n.toNat)
  | _ => False) Z
@[simp] def iRg2 (a b : EM) : Ev → W (List D) := fun env P Z => a env (fun d => b env (fun e => match d, e with
  | .int m, .int n => (-(2 ^ 62) ≤ m ∧ m < 2 ^ 62 ∧ -(2 ^ 62) ≤ n ∧ n < 2 ^ 62) ∧ P (rgD m (n - m).toNat)
  | _, _ => False) Z) Z
@[simp] def iZp (a b : EM) : Ev → W (List D) := fun env P Z => a env (fun d => b env (fun e => match d, e with
  | .lst l, .lst m => P (List.zipWith (fun x y => D.tup [x, y]) l m)
  | .tup l, .tup m => P (List.zipWith (fun x y => D.tup [x, y]) l m)
  | _, _ => False) Z) Z
theorem rgD_get {lo : Int} {n i : Nat} {d : D} (h : (rgD lo n)[i]? = some d) : i < n ∧ d = .int (lo + (i : Int)) := by
  unfold rgD at h
  rw [List.getElem?_map] at h
  by_cases hi : i < n
  · rw [List.getElem?_range hi] at h
    exact ⟨hi, (by simpa using h.symm)⟩
  · rw [List.getElem?_eq_none (by simpa using hi)] at h
    cases h
theorem rgD_non {lo : Int} {n i : Nat} (h : (rgD lo n)[i]? = none) : n ≤ i := by
  have z := List.getElem?_eq_none_iff.mp h
  unfold rgD at z
  simpa using z
section
variable {X : Cx} {g : Gd} {B : Hp × Hp} {E : XK} {a b tg : Expr} {pos p : Pos} {ma mb : EM}
theorem di_of (ha : DE X g B E a ma) : DI X g B E tg a (iOf ma) := by
  refine pi_imp (pi_seq ha) fun σ H R h => ?_
  obtain ⟨env, S, P, Z, ok, hm, k, kx⟩ := h
  refine ⟨env, S, _, Z, ok, hm, fun d v S' H' p ok' ex r => ?_, kx⟩
  cases d with
  | lst l =>
    unfold Rep at r
    obtain ⟨q, vs, rfl, h2, h3⟩ := r
    refine ⟨q, rfl, .inl ⟨⟨vs, ok'.frm.le.sqL (SqL.of h2)⟩, k l _ S' H' p ok' ex fun i S2 H2 e2 l2 => ⟨fun d hd => ?_, fun hn => ?_⟩⟩⟩
    · obtain ⟨v, hv, rv⟩ := h3.got hd
      exact ⟨⟨vs, v, l2.sqL (SqL.of (e2 _ _ h2)), hv⟩, fun x H3 y => by
        obtain ⟨e, y⟩ := y
        rw [e]
        have z := y vs (l2.sqL (SqL.of (e2 _ _ h2)))
        rw [hv] at z
        rw [← Option.some.inj z]
        exact ⟨S2, New.rf l2, rv.mono e2⟩⟩
    · exact ⟨vs, l2.sqL (SqL.of (e2 _ _ h2)), by have := List.getElem?_eq_none_iff.mp hn; rw [← h3.len]; exact this⟩
  | tup l =>
    unfold Rep at r
    obtain ⟨q, vs, rfl, h2, h3⟩ := r
    refine ⟨q, rfl, .inr ⟨⟨vs, ok'.frm.le.sqT h2⟩, k l _ S' H' p ok' ex fun i S2 H2 e2 l2 => ⟨fun d hd => ?_, fun hn => ?_⟩⟩⟩
    · obtain ⟨v, hv, rv⟩ := h3.got hd
      exact ⟨⟨vs, v, l2.sqT (e2 _ _ h2), hv⟩, fun x H3 y => by
        obtain ⟨e, y⟩ := y
        rw [e]
        have z := y vs (l2.sqT (e2 _ _ h2))
        rw [hv] at z
        rw [← Option.some.inj z]
        exact ⟨S2, New.rf l2, rv.mono e2⟩⟩
    · exact ⟨vs, l2.sqT (e2 _ _ h2), by have := List.getElem?_eq_none_iff.mp hn; rw [← h3.len]; exact this⟩
  | scr l =>
    unfold Rep at r
    obtain ⟨q, rfl, h2⟩ := r
    refine ⟨q, rfl, .inl ⟨⟨_, ok'.frm.le.sqL h2⟩, k _ _ S' H' p ok' ex fun i S2 H2 e2 l2 => ⟨fun d hd => ?_, fun hn => ?_⟩⟩⟩
    · have hs := l2.sqL (Evl.ex_l e2 h2)
      rw [List.getElem?_map] at hd
      cases hz : l[i]? with
      | none =>
        rw [hz] at hd
        cases hd
      | some z =>
        rw [hz] at hd
        cases hd
        have hv : (l.map V.int)[i]? = some (.int z) := by rw [List.getElem?_map, hz]; rfl
        exact ⟨⟨_, _, hs, hv⟩, fun x H3 y => by
          obtain ⟨e, y⟩ := y
          have w := y _ hs
          rw [hv] at w
          rw [e, ← Option.some.inj w]
          exact ⟨S2, New.rf l2, by unfold Rep; rfl⟩⟩
    · exact ⟨_, l2.sqL (Evl.ex_l e2 h2), by have := List.getElem?_eq_none_iff.mp hn; simpa using this⟩
  | _ => exact p.elim
theorem itr_ok {K : PySem.W.Frag} {mg : Str → Option Value} {S : Hp} (lo : Int) (n : Nat) : ItOk K mg g S (Itr lo n) (rgD lo n) := fun i S2 H2 e2 l2 => ⟨fun d hd => by
  obtain ⟨h1, h2⟩ := rgD_get hd
  refine ⟨h1, fun x H3 y => ?_⟩
  obtain ⟨e, y⟩ := y
  rw [e, h2]
  exact ⟨S2, New.rf l2, by unfold Rep; exact y⟩, fun hn => rgD_non hn⟩
theorem di_rg1 (hg : Gl X "range") (hm : X.mg "range" = none) (ha : DE X g B E a ma) (hs : starEach [a] X.env = [(false, eval a X.env)] := by rfl) : DI X g B E tg (.Call (.Name "range" p) [a] [] pos) (iRg1 ma) := by
  refine pi_imp (pi_range1 hg hm (pa_cons ha pa_nil hs) hs) fun σ H R h => ?_
  obtain ⟨env, S, P, Z, ok, hm, k, kx⟩ := h
  refine ⟨env, S, _, Z, ok, hm, fun d v S' H' p ok' ex r => ?_, kx⟩
  cases d with
  | int n =>
    unfold Rep at r
    subst r
    exact ⟨n, rfl, p.1.1, p.1.2, k _ _ S' H' p.2 ok' ex (itr_ok 0 _)⟩
  | _ => exact p.elim
theorem di_rg2 (hg : Gl X "range") (hm : X.mg "range" = none) (ha : DE X g B E a ma) (hb : DE X g B E b mb) (hs : starEach [a, b] X.env = [(false, eval a X.env), (false, eval b X.env)] := by rfl) (hs2 : starEach [b] X.env = [(false, eval b X.env)] := by rfl) :
    DI X g B E tg (.Call (.Name "range" p) [a, b] [] pos) (iRg2 ma mb) := by
  refine pi_imp (pi_range2 hg hm (pa_cons ha (pa_cons hb pa_nil hs2) (by rw [hs, hs2])) hs hs2) fun σ H R h => ?_
  obtain ⟨env, S, P, Z, ok, hm, k, kx⟩ := h
  refine ⟨env, S, _, Z, ok, hm, fun d v S' H' p ok' ex r => ?_, kx⟩
  refine ⟨env, S', _, Z, ok', p, fun d2 v2 S2 H2 p2 ok2 ex2 r2 => ?_, kx⟩
  cases d with
  | int m =>
    cases d2 with
    | int n =>
      unfold Rep at r r2
      subst r r2
      exact ⟨m, n, rfl, p2.1, k _ _ S2 H2 p2.2 ok2 (ex.tr ex2) (itr_ok m _)⟩
    | _ => exact p2.elim
  | _ => exact p2.elim
theorem zip_get {l m : List D} {i : Nat} {d : D} (h : (List.zipWith (fun x y => D.tup [x, y]) l m)[i]? = some d) : ∃ x y, l[i]? = some x ∧ m[i]? = some y ∧ d = .tup [x, y] := by
  rw [List.getElem?_zipWith] at h
  cases h1 : l[i]? with
  | none =>
    rw [h1] at h
    simp at h
  | some x =>
    cases h2 : m[i]? with
    | none =>
      rw [h1, h2] at h
      simp at h
    | some y =>
      rw [h1, h2] at h
      exact ⟨x, y, rfl, rfl, (by simpa using h.symm)⟩
theorem zip_non {l m : List D} {i : Nat} (h : (List.zipWith (fun x y => D.tup [x, y]) l m)[i]? = none) : l.length ≤ i ∨ m.length ≤ i := by
  have z := List.getElem?_eq_none_iff.mp h
  rw [List.length_zipWith] at z
  omega
theorem di_zp {elts : List Expr} {kk : Nat} {tpos : Pos} (hg : Gl X "zip") (hm : X.mg "zip" = none) (ha : DE X g B E a ma) (hb : DE X g B E b mb)
    (hs : starEach [a, b] X.env = (false, eval a X.env) :: starEach [b] X.env := by rfl) (hs2 : starEach [b] X.env = (false, eval b X.env) :: starEach [] X.env := by rfl) (hpl : (backTo pos (starEach [b] X.env)).any (·.1) = false := by rfl) :
    DI X g B E (.Tuple elts kk tpos) (.Call (.Name "zip" p) [a, b] [] pos) (iZp ma mb) := by
  refine pi_imp (RZ.pi_zipA hg hm (pa_cons ha (pa_cons hb pa_nil hs2) hs) hs hpl) fun σ H R h => ?_
  obtain ⟨env, S, P, Z, ok, hm, k, kx⟩ := h
  refine ⟨env, S, _, Z, ok, hm, fun d v S' H' p ok' ex r => ?_, kx⟩
  refine ⟨env, S', _, Z, ok', p, fun d2 v2 S2 H2 p2 ok2 ex2 r2 => ?_, kx⟩
  have rr := r.mono ex2
  cases d with
  | lst l =>
    cases d2 with
    | lst m =>
      unfold Rep at rr r2
      obtain ⟨q, vs, rfl, h2, h3⟩ := rr
      obtain ⟨q', vs', rfl, h2', h3'⟩ := r2
      refine ⟨q, q', vs, vs', rfl, .inl ⟨ok2.frm.le.sqL (SqL.of h2), ok2.frm.le.sqL (SqL.of h2'), k _ _ S2 H2 p2 ok2 (ex.tr ex2) fun i S4 H4 e4 l4 => ⟨fun d hd => ?_, fun hn => ?_⟩⟩⟩
      · obtain ⟨x, y, hx, hy, rfl⟩ := zip_get hd
        obtain ⟨vx, ex', rx⟩ := h3.got hx
        obtain ⟨vy, ey', ry⟩ := h3'.got hy
        have s1 := l4.sqL (K := X.K) (SqL.of (e4 _ _ h2))
        have s2 := l4.sqL (K := X.K) (SqL.of (e4 _ _ h2'))
        refine ⟨⟨vs, vs', vx, vy, s1, s2, ex', ey'⟩, fun w H5 yy => ?_⟩
        obtain ⟨T, x1, y1, rfl, hT, rfl, f1, f2⟩ := yy
        have z1 := f1 _ s1
        have z2 := f2 _ s2
        rw [ex'] at z1
        rw [ey'] at z2
        cases z1
        cases z2
        have n := New.add (o := .tup [vx, vy]) l4 hT (fun ps z => by cases z)
        exact ⟨_, n, by unfold Rep; exact ⟨T, _, rfl, upd_same, Reps.cons ((rx.mono e4).mono n.ss) (Reps.cons ((ry.mono e4).mono n.ss) Reps.nil)⟩⟩
      · exact ⟨vs, vs', l4.sqL (SqL.of (e4 _ _ h2)), l4.sqL (SqL.of (e4 _ _ h2')), by rw [← h3.len, ← h3'.len]; exact zip_non hn⟩
    | _ => exact p2.elim
  | tup l =>
    cases d2 with
    | tup m =>
      unfold Rep at rr r2
      obtain ⟨q, vs, rfl, h2, h3⟩ := rr
      obtain ⟨q', vs', rfl, h2', h3'⟩ := r2
      refine ⟨q, q', vs, vs', rfl, .inr ⟨ok2.frm.le.sqT h2, ok2.frm.le.sqT h2', k _ _ S2 H2 p2 ok2 (ex.tr ex2) fun i S4 H4 e4 l4 => ⟨fun d hd => ?_, fun hn => ?_⟩⟩⟩
      · obtain ⟨x, y, hx, hy, rfl⟩ := zip_get hd
        obtain ⟨vx, ex', rx⟩ := h3.got hx
        obtain ⟨vy, ey', ry⟩ := h3'.got hy
        have s1 := l4.sqT (K := X.K) (e4 _ _ h2)
        have s2 := l4.sqT (K := X.K) (e4 _ _ h2')
        refine ⟨⟨vs, vs', vx, vy, s1, s2, ex', ey'⟩, fun w H5 yy => ?_⟩
        obtain ⟨T, x1, y1, rfl, hT, rfl, f1, f2⟩ := yy
        have z1 := f1 _ s1
        have z2 := f2 _ s2
        rw [ex'] at z1
        rw [ey'] at z2
        cases z1
        cases z2
        have n := New.add (o := .tup [vx, vy]) l4 hT (fun ps z => by cases z)
        exact ⟨_, n, by unfold Rep; exact ⟨T, _, rfl, upd_same, Reps.cons ((rx.mono e4).mono n.ss) (Reps.cons ((ry.mono e4).mono n.ss) Reps.nil)⟩⟩
      · exact ⟨vs, vs', l4.sqT (e4 _ _ h2), l4.sqT (e4 _ _ h2'), by rw [← h3.len, ← h3'.len]; exact zip_non hn⟩
    | _ => exact p2.elim
  | _ => exact p2.elim
end

/-! ### comprehensions -/
@[simp] def lcE (T : D → Ev → Option Ev) (c : Ev → W Bool) (me : EM) (env : Ev) : List D → W (List D)
  | [] => fun P _ => P []
  | x :: r => fun P Z => match T x env with
    | none => False
    | some env1 => c env1 (fun b => if b = true then me env1 (fun y => lcE T c me env r (fun ys => P (y :: ys)) Z) (fun _ => False) else lcE T c me env r P Z) (fun _ => False)
@[simp] def eLc (own : List Nat) (T : D → Ev → Option Ev) (mi : Ev → W (List D)) (c : Ev → W Bool) (me : EM) : EM := fun env P Z => mi env (fun xs => xs.length < 16777216 ∧ lcE T c me (blkE own env) xs (fun ys => P (.lst ys)) Z) Z
@[simp] def tTrue : Ev → W Bool := fun _ P _ => P true
abbrev EF : XK := fun _ _ _ => False
section
variable {X : Cx} {g : Gd} {B : Hp × Hp} {E : XK} {elt tg iter : Expr} {ifs : List Expr} {scope : Scope} {own : List (Str × Nat)} {pos : Pos} {mi : Ev → W (List D)} {gT : TG} {T : D → Ev → Option Ev} {vT : List Nat} {mc : Ev → W Bool} {me : EM}
/-- what a comprehension does from its iterator on -/
abbrev lcT (X : Cx) (g : Gd) (J : It) (gT : TG) (mc : Ev → W Bool) (me : EM) (vs : List Nat) (σ : L2.St) (H1 : Hp) (Q : VK) : Prop := ∀ D, H1 D = none → ∃ W : Nat → Nat → Hp → Prop, (∃ m, W 0 m (upd H1 D (.lst []))) ∧ ∀ i m H, W i m H →
  (J.stop i H ∧ Q (.ref D) H) ∨ (J.go i H ∧ ∃ Nx : Hp → Prop, (∀ H', Nx H' → ∃ m', m' < m ∧ W (i + 1) m' H') ∧ ∀ x H', J.yld i H x H' → gT x (L2.wipe σ vs) H' fun σ2 H2 => L2.wipe σ2 vs = L2.wipe σ vs ∧ (fun σ H Q => ∃ B', cloT X g B' EF mc σ H Q) σ2 H2 fun b H3 =>
    if b = true then (fun σ H Q => ∃ B', clo X g B' EF me σ H Q) σ2 H3 fun y H4 => ∃ acc, H4 D = some (.lst acc) ∧ acc.length < sizeLine ∧ Nx (upd H4 D (.lst (acc ++ [y]))) else Nx H3)
theorem lc_body {vs : List Nat} (tk : TgOk X g gT T vT) (hsub : ∀ i ∈ vT, i ∈ vs) {σ : L2.St} {H1 : Hp} {Q : VK} {env : Ev} {S1 : Hp} {P : List D → Prop} {Z : D → Prop} {ds : List D} {J : It} (ok1 : Ok X.K X.mg g B env S1 σ H1) (it : ItOk2 X.K X.mg g S1 H1 J ds) (hlen : ds.length < 16777216) (p1 : lcE T mc me (blkE vs env) ds P Z)
    (k : ∀ ys D acc S2 H2, P ys → Ok X.K X.mg g B env S2 σ H2 → Ex S1 S2 → S2 D = none → Nn B.2 D → D ∉ g.R → H2 D = some (.lst acc) → Reps X.K X.mg g S2 ys acc → (∀ (i : Nat) (a : Addr) (l : Slot), env[i]? = some l → l.holds = true → σ[i]? = some (some (.ref a)) → a ≠ D) → Q (.ref D) H2) :
    lcT X g J gT mc me vs σ H1 Q := by
  intro D hD
  have nR : D ∉ g.R := notR ok1.frm.dw hD
  have sD := ok1.frm.le.none hD
  refine ⟨fun i m H2 => m = ds.length - i ∧ i ≤ ds.length ∧ ∃ (S2 : Hp) (acc : List V) (ys : List DL.D), Frm g S1 H1 S2 H2 ∧ S2 D = none ∧ H2 D = some (.lst acc) ∧ Reps X.K X.mg g S2 ys acc ∧ ys.length ≤ i ∧
    lcE T mc me (blkE vs env) (ds.drop i) (fun r => P (ys ++ r)) Z, ⟨ds.length, by simp, Nat.zero_le _, S1, [], [], ok1.frm.rf.new (New.hid ok1.frm.le hD), sD, upd_same, Reps.nil, Nat.le_refl _, by simpa using p1⟩, ?_⟩
  rintro i m H2 ⟨rfl, hi, S2, acc, ys, f2, s2, hd2, rp, hy, q⟩
  by_cases hlt : i < ds.length
  · right
    obtain ⟨it1, _⟩ := it i S2 H2 f2.ss f2.le f2.fr
    have e0 : ds[i]? = some ds[i] := List.getElem?_eq_getElem hlt
    obtain ⟨go, yl⟩ := it1 _ e0
    refine ⟨go, fun H' => ∃ m', m' < ds.length - i ∧ m' = ds.length - (i + 1) ∧ i + 1 ≤ ds.length ∧ ∃ (S2 : Hp) (acc : List V) (ys : List DL.D), Frm g S1 H1 S2 H' ∧ S2 D = none ∧ H' D = some (.lst acc) ∧ Reps X.K X.mg g S2 ys acc ∧ ys.length ≤ i + 1 ∧
      lcE T mc me (blkE vs env) (ds.drop (i + 1)) (fun r => P (ys ++ r)) Z, fun H' ⟨m', h1, h2⟩ => ⟨m', h1, h2⟩, fun x H3 y => ?_⟩
    obtain ⟨S3, n3, r3⟩ := yl x H3 y
    have f3 := f2.new n3
    have ok3 := (ok1.call f3).blk vs
    have s3 : S3 D = none := n3.keepN s2 hd2 .lst
    rw [List.drop_eq_getElem_cons hlt] at q
    unfold lcE at q
    cases et : T ds[i] (blkE vs env) with
    | none =>
      rw [et] at q
      exact q.elim
    | some env1 =>
      rw [et] at q
      refine tk.run _ _ x _ H3 _ env1 S3 _ ok3 r3 et fun σ2 ok4 hs hl => ⟨wipe_same (fun j hj => ?_) hl, ?_⟩
      · exact hs j fun z => hj (hsub j z)
      refine ⟨(S3, H3), env1, S3, _, _, ok4, q, fun b S5 H5 p5 ok5 ex5 => ?_, fun x cls dx S' H' z => z.elim⟩
      cases b with
      | false =>
        rw [if_neg (by decide)] at p5
        rw [if_neg (by decide)]
        have f5 : Frm g S3 H3 S5 H5 := ok5.frm
        refine ⟨_, by omega, rfl, by omega, S5, acc, ys, f3.tr f5, ?_, f5.fr _ _ (n3.hh _ _ hd2) nR (fun ps z => by cases z), (rp.mono n3.ss).mono ex5, by omega, p5⟩
        exact f5.keepN s3 (n3.hh _ _ hd2) .lst
      | true =>
        rw [if_pos rfl] at p5
        rw [if_pos rfl]
        refine ⟨(S3, H3), env1, S5, _, _, ok5, p5, fun dy yv S6 H6 p6 ok6 ex6 r6 => ?_, fun x cls dx S' H' z => z.elim⟩
        have f6 : Frm g S3 H3 S6 H6 := ok6.frm
        have hd6 : H6 D = some (.lst acc) := f6.fr _ _ (n3.hh _ _ hd2) nR (fun ps z => by cases z)
        have s6 : S6 D = none := f6.keepN s3 (n3.hh _ _ hd2) .lst
        refine ⟨acc, hd6, ?_, _, by omega, rfl, by omega, S6, acc ++ [yv], ys ++ [dy], (f3.tr f6).wr s6 (Nn.of hD) nR hd6, s6, upd_same, Reps.app (((rp.mono n3.ss).mono ex5).mono ex6) (Reps.cons r6 Reps.nil), by rw [List.length_append]; simp; omega, ?_⟩
        · rw [← rp.len, sizeLine_eq]
          omega
        · have e : (fun r => P (ys ++ [dy] ++ r)) = fun r => P (ys ++ dy :: r) := by
            funext r
            simp
          rw [e]
          exact p6
  · left
    have e : i = ds.length := by omega
    subst e
    obtain ⟨_, it2⟩ := it ds.length S2 H2 f2.ss f2.le f2.fr
    refine ⟨it2 (by simp), ?_⟩
    rw [List.drop_length] at q
    refine k ys D acc S2 H2 (by simpa [lcE] using q) (ok1.call f2) f2.ss s2 (ok1.frm.al _ hD) nR hd2 rp fun j a l e1 o1 e2 w => ?_
    obtain ⟨a', u', w1, w2, w3, w4, w5, w6⟩ := (ok1.slots j _ e1).at_ o1
    rw [e2] at w1
    have w7 : a = a' := by simpa using w1
    rw [← w7, w, hD] at w5
    cases w5
theorem lc_own {vs : List Nat} (tk : TgOk X g gT T vT) (hsub : ∀ i ∈ vT, i ∈ vs) {σ : L2.St} {H : Hp} {Q : VK} {env : Ev} {S : Hp} {P : List D → Prop} {Z : D → Prop} (ok : Ok X.K X.mg g B env S σ H) (hm : mi env (fun xs => xs.length < 16777216 ∧ lcE T mc me (blkE vs env) xs P Z) Z)
    (kx : ∀ x cls dx S' H', Z x → Frm g B.1 B.2 S' H' → RepX X.K X.mg g S' cls dx x → E cls dx H')
    (k : ∀ ys D acc S2 H2, P ys → Ok X.K X.mg g B env S2 σ H2 → Ex S S2 → S2 D = none → Nn B.2 D → D ∉ g.R → H2 D = some (.lst acc) → Reps X.K X.mg g S2 ys acc → (∀ (i : Nat) (a : Addr) (l : Slot), env[i]? = some l → l.holds = true → σ[i]? = some (some (.ref a)) → a ≠ D) → Q (.ref D) H2) :
    tLc (cloI X g B E mi) gT (fun σ H Q => ∃ B', cloT X g B' EF mc σ H Q) (fun σ H Q => ∃ B', clo X g B' EF me σ H Q) vs σ H Q :=
  ⟨env, S, _, Z, ok, hm, fun ds J S1 H1 p1 ok1 ex1 it => lc_body tk hsub ok1 it.two p1.1 p1.2 fun ys D acc S2 H2 q ok2 ex2 s2 nB nR hd2 rp hno => k ys D acc S2 H2 q ok2 (ex1.tr ex2) s2 nB nR hd2 rp hno, kx⟩
theorem Ok.adopt {K : PySem.W.Frag} {mg : Str → Option Value} {env : Ev} {S H : Hp} {σ : L2.St} {D : Addr} {acc : List V} (k : Ok K mg g B env S σ H) (h1 : S D = none) (h2 : Nn B.2 D) (h3 : D ∉ g.R) (h4 : H D = some (.lst acc))
    (h5 : ∀ (i : Nat) (a : Addr) (l : Slot), env[i]? = some l → l.holds = true → σ[i]? = some (some (.ref a)) → a ≠ D) : Ok K mg g B env (upd S D (.lst acc)) σ H where
  frm := k.frm.adopt h1 h2 h3 h4 fun ps z => by cases z
  len := k.len
  slots := fun i s e => by
    have ex : Ex S (upd S D (.lst acc)) := fun b o z => by
      rw [upd_ne (fun w => by rw [w, h1] at z; cases z)]
      exact z
    have z := k.slots i s e
    cases s with
    | un => trivial
    | sh d =>
      obtain ⟨v, z1, z2⟩ := z
      exact ⟨v, z1, z2.mono ex⟩
    | own l =>
      obtain ⟨a, vs, z1, z2, z3, z4, z5, z6⟩ := z
      exact ⟨a, vs, z1, by rw [upd_ne (h5 i a _ e rfl z1)]; exact z2, z3, z4, z5, z6.mono ex⟩
    | odc bk ks ws =>
      obtain ⟨a, u, us, z1, z2, z3, z4, z5, z6, z7⟩ := z
      exact ⟨a, u, us, z1, by rw [upd_ne (h5 i a _ e rfl z1)]; exact z2, z3, z4, z5, z6, z7.mono ex⟩
  apart := k.apart
theorem lc_te {vs : List Nat} (tk : TgOk X g gT T vT) (hsub : ∀ i ∈ vT, i ∈ vs) {σ : L2.St} {H : Hp} {Q : VK} (h : clo X g B E (eLc vs T mi mc me) σ H Q) :
    tLc (cloI X g B E mi) gT (fun σ H Q => ∃ B', cloT X g B' EF mc σ H Q) (fun σ H Q => ∃ B', clo X g B' EF me σ H Q) vs σ H Q := by
  obtain ⟨env, S, P, Z, ok, hm, k, kx⟩ := h
  refine lc_own tk hsub ok hm kx fun ys D acc S2 H2 q ok2 ex2 s2 nB nR hd2 rp hno => ?_
  have ok3 := ok2.adopt s2 nB nR hd2 hno
  have ex3 : Ex S2 (upd S2 D (.lst acc)) := fun b o z => by
    rw [upd_ne (fun w => by rw [w, s2] at z; cases z)]
    exact z
  refine k (.lst ys) _ _ H2 q ok3 (ex2.tr ex3) ?_
  unfold Rep
  exact ⟨D, acc, rfl, upd_same, rp.mono ex3⟩
theorem pt_any {ι : Type} {e : List Expr} {t : ι → TT} (h : ∀ i, PTs X e (t i)) : PTs X e (fun σ H Q => ∃ i, t i σ H Q) := ⟨fun pins s σ H Q I ⟨i, q⟩ => (h i).run pins s σ H Q I q⟩
theorem pe_any {ι : Type} {e : Expr} {t : ι → TE} (h : ∀ i, PE X e (t i)) : PE X e (fun σ H Q => ∃ i, t i σ H Q) := ⟨fun pins s σ H Q I ⟨i, q⟩ => (h i).run pins s σ H Q I q⟩
def DTs (X : Cx) (g : Gd) (B : Hp × Hp) (E : XK) (es : List Expr) (m : Ev → W Bool) : Prop := PTs X es (cloT X g B E m)
theorem dts_nil : DTs X g B E [] tTrue := ⟨fun pins s σ H Q I h => by
  obtain ⟨env, S, P, Z, ok, hm, k, kx⟩ := h
  exact pts_nil.run pins s σ H Q I (k true S H hm ok (Ex.rf _))⟩
theorem dts_one {c : Expr} {m : Ev → W Bool} (h : DT X g B E c m) : DTs X g B E [c] m := pts_one h
theorem de_lc (hc : X.calm = true) (hN : X.N.Nodup) (hi : DI X g B E tg iter mi) (ok : BlkOk X.N X.env.scope scope own)
    (hg : ∀ (s : Shared) (H : Hp) (C : Addr) (cl : List (Str × Addr)) (fp : List Addr), PG (X.blk s H scope (compEnvC scope cl C X.env) fp) tg gT) (tk : TgOk X g gT T vT) (hsub : ∀ i ∈ vT, i ∈ own.map (·.2))
    (ht : ∀ (s : Shared) (H : Hp) (C : Addr) (cl : List (Str × Addr)) (fp : List Addr) (B' : Hp × Hp), DTs (X.blk s H scope (compEnvC scope cl C X.env) fp) g B' EF ifs mc)
    (he : ∀ (s : Shared) (H : Hp) (C : Addr) (cl : List (Str × Addr)) (fp : List Addr) (B' : Hp × Hp), DE (X.blk s H scope (compEnvC scope cl C X.env) fp) g B' EF elt me) (hs : ∀ x, foldedSetIterable iter X.env x = pure x := by intro _; rfl) :
    DE X g B E (.ListComp elt [⟨tg, iter, ifs, 0⟩] scope pos) (eLc (own.map (·.2)) T mi mc me) :=
  pe_imp (pe_lc hc hN hi ok hg (fun s H C cl fp => pt_any (t := fun B1 => cloT X g B1 EF mc) fun B' => ht s H C cl fp B') (fun s H C cl fp => pe_any (t := fun B1 => clo X g B1 EF me) fun B' => he s H C cl fp B') hs) fun _ _ _ h => lc_te tk hsub h
end
end DL

set_option Elab.async false
set_option linter.all false
set_option maxRecDepth 100000
set_option maxHeartbeats 2000000
/-! DD: statements; loops; defs and their calls. -/
namespace DL
open PySem PySem.Spec PyProof.Rows L2

structure KS where
  nx : Ev → Prop
  rt : D → Prop
  bk : Ev → Prop := fun _ => False
  ct : Ev → Prop := fun _ => False
  er : D → Prop := fun _ => False
abbrev SM := Ev → KS → Prop
section
variable (X : Cx) (g : Gd) (B : Hp × Hp) (E : XK)
structure KOk (S0 : Hp) (k : KS) (De : Ends) : Prop where
  nx : ∀ env S σ H, k.nx env → Ok X.K X.mg g B env S σ H → Ex S0 S → De.nx σ H
  rt : ∀ d v S H, k.rt d → Frm g B.1 B.2 S H → Rep X.K X.mg g S d v → De.rt v H
  bk : ∀ env S σ H, k.bk env → Ok X.K X.mg g B env S σ H → Ex S0 S → De.bk σ H
  ct : ∀ env S σ H, k.ct env → Ok X.K X.mg g B env S σ H → Ex S0 S → De.ct σ H
  er : ∀ x cls dx S H, k.er x → Frm g B.1 B.2 S H → RepX X.K X.mg g S cls dx x → E cls dx H
def cloS (m : SM) : TS := fun De σ H => ∃ env S k, Ok X.K X.mg g B env S σ H ∧ m env k ∧ KOk X g B E S k De
def DS (st : Stmt) (m : SM) : Prop := PS X st (cloS X g B E m)
def DSs (st : List Stmt) (m : SM) : Prop := PSs X st (cloS X g B E m)
theorem KOk.mono {X : Cx} {g : Gd} {B : Hp × Hp} {E : XK} {S S' : Hp} {k : KS} {De : Ends} (h : KOk X g B E S k De) (e : Ex S S') : KOk X g B E S' k De :=
  ⟨fun a b c d q o x => h.nx a b c d q o (e.tr x), h.rt, fun a b c d q o x => h.bk a b c d q o (e.tr x), fun a b c d q o x => h.ct a b c d q o (e.tr x), h.er⟩
end

@[simp] def sNx : SM := fun env k => k.nx env
@[simp] def sSq (a b : SM) : SM := fun env k => a env { k with nx := fun e => b e k }
@[simp] def sRt (a : EM) : SM := fun env k => a env k.rt k.er
@[simp] def sRn : SM := fun _ k => k.rt .non
@[simp] def sDr (a : EM) : SM := fun env k => a env (fun _ => k.nx env) k.er
@[simp] def sSet (i : Nat) (a : EM) : SM := fun env k => a env (fun d => k.nx (env.set i (.sh d))) k.er
@[simp] def sPr (is : List Nat) (a : Ev → W (List D)) : SM := fun env k => a env (fun ds => match is, ds with
  | [i, j], [x, y] => k.nx ((env.set i (.sh x)).set j (.sh y))
  | [i, j, l], [x, y, z] => k.nx (((env.set i (.sh x)).set j (.sh y)).set l (.sh z))
  | _, _ => False) k.er
@[simp] def sTg (T : D → Ev → Option Ev) (a : EM) : SM := fun env k => a env (fun d => match T d env with
  | some env' => k.nx env'
  | none => False) k.er
@[simp] def sIf (c : Ev → W Bool) (a b : SM) : SM := fun env k => c env (fun t => if t = true then a env k else b env k) k.er
@[simp] def sBk : SM := fun env k => k.bk env
@[simp] def sCt : SM := fun env k => k.ct env
/-- x = [] -/
@[simp] def sNil (i : Nat) : SM := fun env k => k.nx (env.set i (.own []))
/-- x.append(e), x a list that this name alone holds -/
@[simp] def sApp (i : Nat) (a : EM) : SM := fun env k => match env[i]? with
  | some (.own l) => a env (fun d => l.length < 16777216 ∧ k.nx (env.set i (.own (l ++ [d])))) k.er
  | _ => False
/-- from now on x's list is plain data -/
@[simp] def sFz (i : Nat) (a : SM) : SM := fun env k => match env[i]? with
  | some (.own l) => a (env.set i (.sh (.lst l))) k
  | some (.odc _ ks ws) => a (env.set i (.sh (.dic ks ws))) k
  | _ => a env k
@[simp] def sKl (is : List Nat) (a : SM) : SM := fun env k => a (kilE is env) k
@[simp] def forS (T : D → Ev → Option Ev) (kl : List Nat) (b : SM) : List D → SM
  | [] => fun env k => k.nx env
  | x :: r => fun env k => match T x env with
    | none => False
    | some env1 => b env1 { k with nx := fun e => forS T kl b r (kilE kl e) k, ct := fun e => forS T kl b r (kilE kl e) k, bk := fun e => k.nx (kilE kl e) }
@[simp] def sFor (T : D → Ev → Option Ev) (kl : List Nat) (mi : Ev → W (List D)) (b : SM) : SM := fun env k => mi env (fun xs => forS T kl b xs env k) k.er
/-- while: an invariant with its measure -/
def sWh (kl : List Nat) (c : Ev → W Bool) (b : SM) : SM := fun env k => ∃ I : Nat → Ev → Prop, (∃ m, I m env) ∧ ∀ m e, I m e →
  c e (fun t => if t = true then b e { k with nx := fun e' => ∃ m', m' < m ∧ I m' (kilE kl e'), ct := fun e' => ∃ m', m' < m ∧ I m' (kilE kl e'), bk := fun e' => k.nx (kilE kl e') } else k.nx e) k.er
/-- raise C(..): the error that comes -/
@[simp] def sRs (a : EM) : SM := fun env k => a env k.er k.er

section
variable {X : Cx} {g : Gd} {B : Hp × Hp} {E : XK} {st : Stmt} {r : List Stmt} {m m2 : SM} {a b c e : Expr} {pos : Pos} {ma mb : EM} {mc : Ev → W Bool} {ml : Ev → W (List D)} {es : List Expr}
theorem dss_nil : DSs X g B E [] sNx := pss_imp pss_nil fun De σ H h => by
  obtain ⟨env, S, k, ok, hm, kk⟩ := h
  exact kk.nx env S σ H hm ok (Ex.rf _)
theorem dss_cons (h : DS X g B E st m) (h2 : DSs X g B E r m2) : DSs X g B E (st :: r) (sSq m m2) := pss_imp (pss_cons h h2) fun De σ H h => by
  obtain ⟨env, S, k, ok, hm, kk⟩ := h
  exact ⟨env, S, _, ok, hm, fun env' S' σ' H' q ok' ex => ⟨env', S', k, ok', q, kk.mono ex⟩, kk.rt, kk.bk, kk.ct, kk.er⟩
theorem dss_one (h : DS X g B E st m) : DSs X g B E [st] m := pss_one h
/-- the thing that a slot alone holds is plain data from now on -/
theorem Ok.freeze {K : PySem.W.Frag} {mg : Str → Option Value} {g : Gd} {B : Hp × Hp} {env : Ev} {S H : Hp} {σ : L2.St} {i : Nat} {s : Slot} {p : Addr} {u : HO} {d : D} (ok : Ok K mg g B env S σ H) (e : env[i]? = some s) (hs : s.holds = true) (h1 : σ[i]? = some (some (.ref p))) (h2 : S p = none) (h3 : Nn B.2 p) (h4 : p ∉ g.R) (h5 : H p = some u) (m : Mut u)
    (rl : Rep K mg g (upd S p u) d (.ref p)) : Ok K mg g B (env.set i (.sh d)) (upd S p u) σ H ∧ Ex S (upd S p u) := by
  have f := ok.frm.adopt h2 h3 h4 h5 m.nt.2
  have mo : Ex S (upd S p u) := fun q o z => by
    rw [upd_ne (fun w => by rw [w, h2] at z; cases z)]
    exact z
  refine ⟨⟨f, by rw [List.length_set]; exact ok.len, fun j s' e' => ?_, fun q j l1 m1 z e1 e2 o1 o2 s1 s2 => ?_⟩, mo⟩
  · rcases getset e' with ⟨rfl, rfl, _⟩ | ⟨ne, e'⟩
    · exact ⟨_, h1, rl⟩
    · have z := ok.slots j s' e'
      cases ht : s'.holds with
      | false =>
        cases s' with
        | un => trivial
        | sh d =>
          obtain ⟨v, y1, y2⟩ := z
          exact ⟨v, y1, y2.mono mo⟩
        | own l => cases ht
        | odc bk ks ws => cases ht
      | true =>
        obtain ⟨p2, u2, x1, x2, x3, x4, x5, x6⟩ := z.at_ ht
        have nc : p2 ≠ p := fun w => ne (ok.apart i j s s' p e e' hs ht h1 (by rw [x1, w]))
        cases s' with
        | un => cases ht
        | sh d => cases ht
        | own l =>
          obtain ⟨a, vs, y1, y2, y3, y4, y5, y6⟩ := z
          rw [x1] at y1
          have ea : p2 = a := by simpa using y1
          subst ea
          exact ⟨p2, vs, x1, by rw [upd_ne nc]; exact y2, y3, y4, y5, y6.mono mo⟩
        | odc bk ks ws =>
          obtain ⟨a, v, us, y1, y2, y3, y4, y5, y6, y7⟩ := z
          rw [x1] at y1
          have ea : p2 = a := by simpa using y1
          subst ea
          exact ⟨p2, v, us, x1, by rw [upd_ne nc]; exact y2, y3, y4, y5, y6, y7.mono mo⟩
  · rcases getset e1 with ⟨rfl, rfl, _⟩ | ⟨_, e1⟩
    · cases o1
    · rcases getset e2 with ⟨rfl, rfl, _⟩ | ⟨_, e2⟩
      · cases o2
      · exact ok.apart q j l1 m1 z e1 e2 o1 o2 s1 s2
theorem dss_fz {i : Nat} (h : DSs X g B E r m) : DSs X g B E r (sFz i m) := pss_imp h fun De σ H h => by
  obtain ⟨env, S, k, ok, hm, kk⟩ := h
  unfold sFz at hm
  cases e : env[i]? with
  | none =>
    rw [e] at hm
    exact ⟨env, S, k, ok, hm, kk⟩
  | some s =>
    rw [e] at hm
    cases s with
    | un => exact ⟨env, S, k, ok, hm, kk⟩
    | sh d => exact ⟨env, S, k, ok, hm, kk⟩
    | own l =>
      obtain ⟨p, vs, h1, h2, h3, h4, h5, h6⟩ := ok.slots i _ e
      obtain ⟨ok2, mo⟩ := ok.freeze (d := .lst l) e rfl h1 h2 h3 h4 h5 .lst (by
        unfold Rep
        exact ⟨p, vs, rfl, upd_same, h6.mono (fun q o z => by rw [upd_ne (fun w => by rw [w, h2] at z; cases z)]; exact z)⟩)
      exact ⟨_, _, k, ok2, hm, kk.mono mo⟩
    | odc bk ks ws =>
      obtain ⟨p, u, us, h1, h2, h3, h4, h5, h6, h7⟩ := ok.slots i _ e
      obtain ⟨ok2, mo⟩ := ok.freeze (d := .dic ks ws) e rfl h1 h2 h3 h4 h5 (.dic h6) (by
        unfold Rep
        exact ⟨p, us, u, bk, rfl, upd_same, h6, h7.mono (fun q o z => by rw [upd_ne (fun w => by rw [w, h2] at z; cases z)]; exact z)⟩)
      exact ⟨_, _, k, ok2, hm, kk.mono mo⟩
theorem dss_kl {is : List Nat} (h : DSs X g B E r m) : DSs X g B E r (sKl is m) := pss_imp h fun De σ H h => by
  obtain ⟨env, S, k, ok, hm, kk⟩ := h
  exact ⟨_, S, k, ok.kil is, hm, kk⟩
theorem ds_rt (ha : DE X g B E a ma) : DS X g B E (.Return (some a) pos) (sRt ma) := ps_imp (ps_ret ha) fun De σ H h => by
  obtain ⟨env, S, k, ok, hm, kk⟩ := h
  exact ⟨env, S, _, _, ok, hm, fun d v S' H' p ok' ex r => kk.rt d v S' H' p ok'.frm r, kk.er⟩
theorem ds_rn : DS X g B E (.Return none pos) sRn := ps_imp ps_retN fun De σ H h => by
  obtain ⟨env, S, k, ok, hm, kk⟩ := h
  exact kk.rt .non .non S H hm ok.frm (by unfold Rep; rfl)
theorem ds_dr (ha : DE X g B E a ma) (hs : swapsWith a none pos.line X.env = pure false := by rfl) : DS X g B E (.Expr a pos) (sDr ma) := ps_imp (ps_expr ha hs) fun De σ H h => by
  obtain ⟨env, S, k, ok, hm, kk⟩ := h
  exact ⟨env, S, _, _, ok, hm, fun d v S' H' p ok' ex r => kk.nx env S' σ H' p ok' ex, kk.er⟩
theorem ds_ps : DS X g B E (.Pass pos) sNx := ps_imp ps_pass fun De σ H h => by
  obtain ⟨env, S, k, ok, hm, kk⟩ := h
  exact kk.nx env S σ H hm ok (Ex.rf _)
theorem ds_bk : DS X g B E (.Break pos) sBk := ps_imp ps_break fun De σ H h => by
  obtain ⟨env, S, k, ok, hm, kk⟩ := h
  exact kk.bk env S σ H hm ok (Ex.rf _)
theorem ds_ct : DS X g B E (.Continue pos) sCt := ps_imp ps_continue fun De σ H h => by
  obtain ⟨env, S, k, ok, hm, kk⟩ := h
  exact kk.ct env S σ H hm ok (Ex.rf _)
/-- x = e -/
theorem ds_set {i : Nat} {x : Str} {pos' : Pos} (hN : X.N.Nodup) (ha : DE X g B E a ma) (hi : X.N[i]? = some x := by rfl) (hx : Loc X.env.scope x := by first | exact Or.inl rfl | exact Or.inr rfl)
    (hs : swapsWith a (some (.Name x pos')) pos.line X.env = pure false := by rfl) (hf : X.fn x = true ∨ X.env.scope.names.lookup x = some .local := by first | exact .inl rfl | exact .inr rfl) : DS X g B E (.Assign [.Name x pos'] a pos) (sSet i ma) :=
  ps_imp (ps_set (i := i) hN hi hx ha hs hf) fun De σ H h => by
    obtain ⟨env, S, k, ok, hm, kk⟩ := h
    exact ⟨env, S, _, _, ok, hm, fun d v S' H' p ok' ex r => kk.nx _ S' _ H' p (ok'.set i r) ex, kk.er⟩
/-- x = [.. for ..] on one line, x a local -/
theorem ds_lc {i : Nat} {y : Str} {py spos : Pos} {elt tg iter : Expr} {ifs : List Expr} {scope : Scope} {own : List (Str × Nat)} {mi : Ev → W (List D)} {gT : TG} {T : D → Ev → Option Ev} {vT : List Nat} {me : EM} (hc : X.calm = true) (hN : X.N.Nodup)
    (hi : DI X g B E tg iter mi) (ok : BlkOk X.N X.env.scope scope own)
    (hg : ∀ (s : Shared) (H : Hp) (C : Addr) (cl : List (Str × Addr)) (fp : List Addr), PG (X.blk s H scope (compEnvC scope cl C X.env) fp) tg gT) (tk : TgOk X g gT T vT) (hsub : ∀ i ∈ vT, i ∈ own.map (·.2))
    (ht : ∀ (s : Shared) (H : Hp) (C : Addr) (cl : List (Str × Addr)) (fp : List Addr) (B' : Hp × Hp), DTs (X.blk s H scope (compEnvC scope cl C X.env) fp) g B' EF ifs mc)
    (he : ∀ (s : Shared) (H : Hp) (C : Addr) (cl : List (Str × Addr)) (fp : List Addr) (B' : Hp × Hp), DE (X.blk s H scope (compEnvC scope cl C X.env) fp) g B' EF elt me)
    (hsw : swapsWith (.ListComp elt [⟨tg, iter, ifs, 0⟩] scope pos) (some (.Name y py)) spos.line X.env = pure true) (hy : X.N[i]? = some y := by rfl) (hyl : X.env.scope.names.lookup y = some .local := by rfl) (hs : ∀ x, foldedSetIterable iter X.env x = pure x := by intro _; rfl) :
    DS X g B E (.Assign [.Name y py] (.ListComp elt [⟨tg, iter, ifs, 0⟩] scope pos) spos) (sSet i (eLc (own.map (·.2)) T mi mc me)) :=
  ps_imp (ps_setLc (i := i) hc hN hy hyl hsw hi ok hg (fun s H C cl fp => pt_any (t := fun B1 => cloT X g B1 EF mc) fun B' => ht s H C cl fp B') (fun s H C cl fp => pe_any (t := fun B1 => clo X g B1 EF me) fun B' => he s H C cl fp B') hs) fun De σ H h => by
    obtain ⟨env, S, k, ok, hm, kk⟩ := h
    exact lc_te (Q := fun x H1 => gName i x σ H1 De.nx) tk hsub ⟨env, S, _, _, ok, hm, fun d v S' H' p ok' ex r => kk.nx _ S' _ H' p (ok'.set i r) ex, kk.er⟩
/-- .. as a list that x alone holds -/
@[simp] def sLo (i : Nat) (own : List Nat) (T : D → Ev → Option Ev) (mi : Ev → W (List D)) (c : Ev → W Bool) (me : EM) : SM := fun env k => mi env (fun xs => xs.length < 16777216 ∧ lcE T c me (blkE own env) xs (fun ys => k.nx (env.set i (.own ys))) k.er) k.er
theorem ds_lco {i : Nat} {y : Str} {py spos : Pos} {elt tg iter : Expr} {ifs : List Expr} {scope : Scope} {own : List (Str × Nat)} {mi : Ev → W (List D)} {gT : TG} {T : D → Ev → Option Ev} {vT : List Nat} {me : EM} (hc : X.calm = true) (hN : X.N.Nodup)
    (hi : DI X g B E tg iter mi) (ok : BlkOk X.N X.env.scope scope own)
    (hg : ∀ (s : Shared) (H : Hp) (C : Addr) (cl : List (Str × Addr)) (fp : List Addr), PG (X.blk s H scope (compEnvC scope cl C X.env) fp) tg gT) (tk : TgOk X g gT T vT) (hsub : ∀ i ∈ vT, i ∈ own.map (·.2))
    (ht : ∀ (s : Shared) (H : Hp) (C : Addr) (cl : List (Str × Addr)) (fp : List Addr) (B' : Hp × Hp), DTs (X.blk s H scope (compEnvC scope cl C X.env) fp) g B' EF ifs mc)
    (he : ∀ (s : Shared) (H : Hp) (C : Addr) (cl : List (Str × Addr)) (fp : List Addr) (B' : Hp × Hp), DE (X.blk s H scope (compEnvC scope cl C X.env) fp) g B' EF elt me)
    (hsw : swapsWith (.ListComp elt [⟨tg, iter, ifs, 0⟩] scope pos) (some (.Name y py)) spos.line X.env = pure true) (hy : X.N[i]? = some y := by rfl) (hyl : X.env.scope.names.lookup y = some .local := by rfl) (hs : ∀ x, foldedSetIterable iter X.env x = pure x := by intro _; rfl) :
    DS X g B E (.Assign [.Name y py] (.ListComp elt [⟨tg, iter, ifs, 0⟩] scope pos) spos) (sLo i (own.map (·.2)) T mi mc me) :=
  ps_imp (ps_setLc (i := i) hc hN hy hyl hsw hi ok hg (fun s H C cl fp => pt_any (t := fun B1 => cloT X g B1 EF mc) fun B' => ht s H C cl fp B') (fun s H C cl fp => pe_any (t := fun B1 => clo X g B1 EF me) fun B' => he s H C cl fp B') hs) fun De σ H h => by
    obtain ⟨env, S, k, ok, hm, kk⟩ := h
    exact lc_own (Q := fun x H1 => gName i x σ H1 De.nx) tk hsub ok hm kk.er fun ys D acc S2 H2 q ok2 ex2 s2 nB nR hd2 rp hno => kk.nx _ S2 _ H2 q (ok2.take i s2 nB nR hd2 rp hno) ex2
theorem ds_p2 {i j : Nat} {x y : Str} {px py pt : Pos} {kt k2 : Nat} {pt2 : Pos} (hc : X.calm = true) (hN : X.N.Nodup) (ha : DAr X g B E [a, b] ml) (hi : X.N[i]? = some x := by rfl) (hj : X.N[j]? = some y := by rfl) (hij : i ≠ j := by decide)
    (hx : X.env.scope.names.lookup x = some .local := by rfl) (hy : X.env.scope.names.lookup y = some .local := by rfl)
    (hw : swappedStores [.Tuple [.Name x px, .Name y py] kt pt] (.Tuple [a, b] k2 pt2) X.env = pure (some [x, y]) := by rfl)
    (hs : swapsWithSole [.Tuple [.Name x px, .Name y py] kt pt] (.Tuple [a, b] k2 pt2) pos.line X.env = pure false := by rfl) :
    DS X g B E (.Assign [.Tuple [.Name x px, .Name y py] kt pt] (.Tuple [a, b] k2 pt2) pos) (sPr [i, j] ml) :=
  ps_imp (ps_par (i := i) (j := j) hc hN hi hj hij hx hy ha hw hs) fun De σ H h => by
    obtain ⟨env, S, k, ok, hm, kk⟩ := h
    refine ⟨env, S, _, _, ok, hm, fun ds vs S' H' p ok' ex r => ?_, kk.er⟩
    match ds, p with
    | [d1, d2], p =>
      unfold Reps at r
      obtain ⟨w, ws, rfl, r1, r⟩ := r
      unfold Reps at r
      obtain ⟨w2, ws2, rfl, r2, r⟩ := r
      unfold Reps at r
      subst r
      exact ⟨w, w2, rfl, kk.nx _ S' _ H' p ((ok'.set i r1).set j r2) ex⟩
theorem ds_p3 {i j l : Nat} {x y z : Str} {px py pz pt : Pos} {kt k2 : Nat} {pt2 : Pos} (hc : X.calm = true) (hN : X.N.Nodup) (ha : DAr X g B E [a, b, c] ml) (hi : X.N[i]? = some x := by rfl) (hj : X.N[j]? = some y := by rfl) (hl : X.N[l]? = some z := by rfl)
    (hij : i ≠ j := by decide) (hil : i ≠ l := by decide) (hjl : j ≠ l := by decide)
    (hx : X.env.scope.names.lookup x = some .local := by rfl) (hy : X.env.scope.names.lookup y = some .local := by rfl) (hz : X.env.scope.names.lookup z = some .local := by rfl)
    (hw : swappedStores [.Tuple [.Name x px, .Name y py, .Name z pz] kt pt] (.Tuple [a, b, c] k2 pt2) X.env = pure (some [x, y, z]) := by rfl)
    (hs : swapsWithSole [.Tuple [.Name x px, .Name y py, .Name z pz] kt pt] (.Tuple [a, b, c] k2 pt2) pos.line X.env = pure false := by rfl) :
    DS X g B E (.Assign [.Tuple [.Name x px, .Name y py, .Name z pz] kt pt] (.Tuple [a, b, c] k2 pt2) pos) (sPr [i, j, l] ml) :=
  ps_imp (ps_par3 (i := i) (j := j) (l := l) hc hN hi hj hl hij hil hjl hx hy hz ha hw hs) fun De σ H h => by
    obtain ⟨env, S, k, ok, hm, kk⟩ := h
    refine ⟨env, S, _, _, ok, hm, fun ds vs S' H' p ok' ex r => ?_, kk.er⟩
    match ds, p with
    | [d1, d2, d3], p =>
      unfold Reps at r
      obtain ⟨w, ws, rfl, r1, r⟩ := r
      unfold Reps at r
      obtain ⟨w2, ws2, rfl, r2, r⟩ := r
      unfold Reps at r
      obtain ⟨w3, ws3, rfl, r3, r⟩ := r
      unfold Reps at r
      subst r
      exact ⟨w, w2, w3, rfl, kk.nx _ S' _ H' p (((ok'.set i r1).set j r2).set l r3) ex⟩
/-- target = e -/
theorem ds_tg {tg : Expr} {gT : TG} {T : D → Ev → Option Ev} {vT : List Nat} (ha : DE X g B E a ma) (hg : PG X tg gT) (tk : TgOk X g gT T vT) (hs : swapsWithSole [tg] a pos.line X.env = pure false := by rfl) (hw : swappedStores [tg] a X.env = pure none := by rfl)
    (h1 : (assignEach [tg] X.env).map (·.2) = [assign tg X.env] := by rfl) : DS X g B E (.Assign [tg] a pos) (sTg T ma) := ps_imp (ps_asg ha hg hs hw h1) fun De σ H h => by
  obtain ⟨env, S, k, ok, hm, kk⟩ := h
  refine ⟨env, S, _, _, ok, hm, fun d v S' H' p ok' ex r => ?_, kk.er⟩
  cases e : T d env with
  | none =>
    rw [e] at p
    exact p.elim
  | some env' =>
    rw [e] at p
    exact tk.run B d v σ H' env env' S' _ ok' r e fun σ' ok2 _ _ => kk.nx env' S' σ' H' p ok2 ex
theorem ds_if {s1 s2 : List Stmt} (hc : DT X g B E c mc) (h1 : DSs X g B E s1 m) (h2 : DSs X g B E s2 m2) : DS X g B E (.If c s1 s2 pos) (sIf mc m m2) := ps_imp (ps_if hc h1 h2) fun De σ H h => by
  obtain ⟨env, S, k, ok, hm, kk⟩ := h
  refine ⟨env, S, _, _, ok, hm, fun b S' H' p ok' ex => ?_, kk.er⟩
  cases b with
  | true => exact ⟨env, S', k, ok', p, kk.mono ex⟩
  | false => exact ⟨env, S', k, ok', p, kk.mono ex⟩
theorem ds_nil {i : Nat} {x : Str} {pos' pos2 : Pos} (hN : X.N.Nodup) (hi : X.N[i]? = some x := by rfl) (hx : Loc X.env.scope x := by first | exact Or.inl rfl | exact Or.inr rfl)
    (hs : swapsWith (.List [] pos2) (some (.Name x pos')) pos.line X.env = pure false := by rfl) (hf : X.fn x = true ∨ X.env.scope.names.lookup x = some .local := by first | exact .inl rfl | exact .inr rfl) : DS X g B E (.Assign [.Name x pos'] (.List [] pos2) pos) (sNil i) :=
  ps_imp (ps_set (i := i) hN hi hx (pe_lst pa_nil) hs hf) fun De σ H h => by
    obtain ⟨env, S, k, ok, hm, kk⟩ := h
    exact ⟨by show 0 ≤ sizeLine; decide, fun p hp => kk.nx _ S _ _ hm (ok.own i hp Reps.nil) (Ex.rf _)⟩
theorem ds_app {i : Nat} {x : Str} {p1 apos cpos : Pos} (ha : DE X g B E a ma) (hN : X.N[i]? = some x := by rfl) (hv : Vis X.env.scope x := by first | exact Or.inl rfl | exact Or.inr (Or.inl rfl) | exact Or.inr (Or.inr rfl))
    (hd : (x == ("__debug__" : Str)) = false := by decide) (hcd : (x == ("__classdict__" : Str)) = false := by decide)
    (hp : ∀ {ta : TE} {t : TA}, PE X (.Name x p1) ta → PA X [a] t → PE X (.Call (.Attribute (.Name x p1) "append" apos) [a] [] cpos) (tBM X.K "list" rAppend ta t)) (hst : starEach [a] X.env = (false, eval a X.env) :: starEach [] X.env := by rfl)
    (hs : swapsWith (.Call (.Attribute (.Name x p1) "append" apos) [a] [] cpos) none pos.line X.env = pure false := by rfl) : DS X g B E (.Expr (.Call (.Attribute (.Name x p1) "append" apos) [a] [] cpos) pos) (sApp i ma) :=
  ps_imp (ps_expr (hp (pe_var (i := i) hN hv hd hcd) (pa_cons ha pa_nil hst)) hs) fun De σ H h => by
    obtain ⟨env, S, k, ok, hm, kk⟩ := h
    unfold sApp at hm
    cases e : env[i]? with
    | none =>
      rw [e] at hm
      exact hm.elim
    | some s =>
      rw [e] at hm
      cases s with
      | un => exact hm.elim
      | sh d => exact hm.elim
      | odc bk ks ws => exact hm.elim
      | own l =>
        obtain ⟨q, vs, h1, h2, h3, h4, h5, h6⟩ := ok.slots i _ e
        refine ⟨.ref q, h1, .inl ⟨rfl, _, .inl (.inl h5)⟩, env, S, _, _, ok, hm, fun d v S' H' p ok' ex r => ?_, kk.er⟩
        obtain ⟨q', vs', y1, y2, y3, y4, y5, y6⟩ := ok'.slots i _ e
        rw [h1] at y1
        have eq' : q = q' := by simpa using y1
        subst eq'
        refine ⟨q, vs', v, rfl, rfl, y5, by rw [← y6.len, sizeLine_eq]; exact p.1, ?_⟩
        exact kk.nx _ S' σ _ p.2 (ok'.wr e h1 (y6.app (Reps.cons r Reps.nil))) ex
/-- for target in iter -/
theorem ds_for {tg iter : Expr} {body : List Stmt} {gT : TG} {T : D → Ev → Option Ev} {vT kl : List Nat} {mi : Ev → W (List D)} (hp : PassesOwn (model X.prog X.w) X.A X.env X.xe) (hc : X.calm = true) (hi : DI X g B E tg iter mi) (hg : PG X tg gT) (tk : TgOk X g gT T vT)
    (hb : DSs X g B E body m) (hs : ∀ x, foldedSetIterable iter X.env x = pure x := by intro _; rfl) : DS X g B E (.For tg iter body [] pos) (sFor T kl mi m) := ps_imp (ps_for hp hc hi hg hb hs) fun De σ H h => by
  obtain ⟨env, S, k, ok, hm, kk⟩ := h
  refine ⟨env, S, _, _, ok, hm, fun ds J S1 H1 p1 ok1 ex1 it => ?_, kk.er⟩
  refine ⟨fun i m' σ' H' => m' = ds.length - i ∧ i ≤ ds.length ∧ ∃ env' S', Ex S1 S' ∧ Ok X.K X.mg g B env' S' σ' H' ∧ forS T kl m (ds.drop i) env' k, ⟨ds.length, by simp, Nat.zero_le _, env, S1, Ex.rf _, ok1, by simpa using p1⟩, ?_⟩
  rintro i m' σ' H' ⟨rfl, hi, env', S', ex', ok', q⟩
  obtain ⟨it1, it2⟩ := it i S' H' ex' ok'.frm.le
  by_cases hlt : i < ds.length
  · right
    have e0 : ds[i]? = some ds[i] := List.getElem?_eq_getElem hlt
    obtain ⟨go, yl⟩ := it1 _ e0
    rw [List.drop_eq_getElem_cons hlt] at q
    unfold forS at q
    refine ⟨go, fun σ2 H2 => ∃ env' S', Ex S1 S' ∧ Ok X.K X.mg g B env' S' σ2 H2 ∧ forS T kl m (ds.drop (i + 1)) env' k, fun σ2 H2 z => ⟨ds.length - (i + 1), by omega, rfl, by omega, z⟩, fun x H3 y => ?_⟩
    obtain ⟨S3, n3, r3⟩ := yl x H3 y
    have ok3 := ok'.new n3
    cases et : T ds[i] env' with
    | none =>
      rw [et] at q
      exact q.elim
    | some env1 =>
      rw [et] at q
      refine tk.run B _ x σ' H3 env' env1 S3 _ ok3 r3 et fun σ2 ok4 _ _ => ?_
      have e3 := ex'.tr n3.ss
      refine ⟨env1, S3, _, ok4, q, fun e2 S2 σ3 H4 q2 ok5 ex5 => ⟨_, S2, e3.tr ex5, ok5.kil kl, q2⟩, kk.rt, fun e2 S2 σ3 H4 q2 ok5 ex5 => ?_, fun e2 S2 σ3 H4 q2 ok5 ex5 => ⟨_, S2, e3.tr ex5, ok5.kil kl, q2⟩, kk.er⟩
      exact kk.nx _ S2 σ3 H4 q2 (ok5.kil kl) ((ex1.tr e3).tr ex5)
  · left
    have e : i = ds.length := by omega
    subst e
    rw [List.drop_length] at q
    exact ⟨it2 (by simp), kk.nx env' S' σ' H' q ok' (ex1.tr ex')⟩
theorem ds_wh {body : List Stmt} {kl : List Nat} (hp : PassesOwn (model X.prog X.w) X.A X.env X.xe) (hc : DT X g B E c mc) (hb : DSs X g B E body m) : DS X g B E (.While c body [] pos) (sWh kl mc m) := ps_imp (ps_while hp hc hb) fun De σ H h => by
  obtain ⟨env, S, k, ok, ⟨I, ⟨m0, i0⟩, step⟩, kk⟩ := h
  refine ⟨fun n σ' H' => ∃ env' S', Ex S S' ∧ Ok X.K X.mg g B env' S' σ' H' ∧ I n env', ⟨m0, env, S, Ex.rf _, ok, i0⟩, ?_⟩
  rintro n σ' H' ⟨env', S', ex', ok', hi⟩
  refine ⟨env', S', _, _, ok', step n env' hi, fun t S2 H2 p ok2 ex2 => ?_, kk.er⟩
  cases t with
  | false => exact kk.nx env' S2 σ' H2 p ok2 (ex'.tr ex2)
  | true =>
    refine ⟨fun σ3 H3 => ∃ m', m' < n ∧ ∃ env3 S3, Ex S S3 ∧ Ok X.K X.mg g B env3 S3 σ3 H3 ∧ I m' env3, fun σ3 H3 ⟨m', h1, h2⟩ => ⟨m', h1, h2⟩, ?_⟩
    refine ⟨env', S2, _, ok2, p, fun e4 S4 σ4 H4 q ok4 ex4 => ?_, kk.rt, fun e4 S4 σ4 H4 q ok4 ex4 => ?_, fun e4 S4 σ4 H4 q ok4 ex4 => ?_, kk.er⟩
    · obtain ⟨m', h1, h2⟩ := q
      exact ⟨m', h1, _, S4, (ex'.tr ex2).tr ex4, ok4.kil kl, h2⟩
    · exact kk.nx _ S4 σ4 H4 q (ok4.kil kl) ((ex'.tr ex2).tr ex4)
    · obtain ⟨m', h1, h2⟩ := q
      exact ⟨m', h1, _, S4, (ex'.tr ex2).tr ex4, ok4.kil kl, h2⟩
end
end DL

set_option Elab.async false
set_option linter.all false
set_option maxRecDepth 100000
set_option maxHeartbeats 2000000
/-! DO: operations upon data. -/
namespace DL
open PySem PySem.Spec PyProof.Rows L2

theorem opr_or {X : Cx} {f : Value → Value → Sem Value} {r s : R2} (h : OpR X f r) (k : OpR X f s) : OpR X f (fun x y H Q => r x y H Q ∨ s x y H Q) := fun pins sh σ H x y v u Q I rx ry q => q.elim (h pins sh σ H x y v u Q I rx ry) (k pins sh σ H x y v u Q I rx ry)
theorem callr_or {X : Cx} {f : Value} {r s : List V → Hp → VK → Prop} (h : CallR X f r) (k : CallR X f s) : CallR X f (fun xs H Q => r xs H Q ∨ s xs H Q) := fun pins sh σ H xs us Q I rx q => q.elim (h pins sh σ H xs us Q I rx) (k pins sh σ H xs us Q I rx)

/-! ### reading data -/
mutual
@[simp] def toPy : D → Option PyData
  | .non => some .none
  | .bl b => some (.bool b)
  | .int i => some (.int i)
  | .str x => some (.str x)
  | .tup l => (toPys l).map PyData.tuple
  | .lst l => (toPys l).map PyData.list
  | _ => none
@[simp] def toPys : List D → Option (List PyData)
  | [] => some []
  | d :: ds => (toPy d).bind fun p => (toPys ds).map fun ps => p :: ps
end
section
variable {K : PySem.W.Frag} {mg : Str → Option Value} {g : Gd} {S H : Hp}
mutual
theorem dp_of (l : Le S H) : ∀ (d : D) (v : V) (p : PyData), Rep K mg g S d v → toPy d = some p → Dp K H v p
  | .non, v, p, r, e => by
    unfold Rep at r
    subst r
    cases Option.some.inj e
    exact .non
  | .bl b, v, p, r, e => by
    unfold Rep at r
    subst r
    cases Option.some.inj e
    exact .bl b
  | .int b, v, p, r, e => by
    unfold Rep at r
    subst r
    cases Option.some.inj e
    exact .int b
  | .str b, v, p, r, e => by
    unfold Rep at r
    subst r
    cases Option.some.inj e
    exact .str b
  | .tup ds, v, p, r, e => by
    unfold Rep at r
    obtain ⟨a, vs, rfl, h2, h3⟩ := r
    unfold toPy at e
    cases q : toPys ds with
    | none =>
      rw [q] at e
      cases e
    | some ps =>
      rw [q] at e
      cases Option.some.inj e
      exact .tup (l.sqT h2) (dps_of l ds vs ps h3 q)
  | .lst ds, v, p, r, e => by
    unfold Rep at r
    obtain ⟨a, vs, rfl, h2, h3⟩ := r
    unfold toPy at e
    cases q : toPys ds with
    | none =>
      rw [q] at e
      cases e
    | some ps =>
      rw [q] at e
      cases Option.some.inj e
      exact .lst (l.sqL (SqL.of h2)) (dps_of l ds vs ps h3 q)
  | .fn _, v, p, r, e => by cases e
  | .ty _, v, p, r, e => by cases e
  | .exc _ _ _, v, p, r, e => by cases e
  | .ins _ _ _, v, p, r, e => by cases e
  | .dic _ _, v, p, r, e => by cases e
  | .drw, v, p, r, e => by cases e
  | .scr _, v, p, r, e => by cases e
  | .opq _, v, p, r, e => by cases e
theorem dps_of (l : Le S H) : ∀ (ds : List D) (vs : List V) (ps : List PyData), Reps K mg g S ds vs → toPys ds = some ps → DpAll K H vs ps
  | [], vs, ps, r, e => by
    unfold Reps at r
    subst r
    cases Option.some.inj e
    exact .nil
  | d :: ds, vs, ps, r, e => by
    unfold Reps at r
    obtain ⟨w, ws, rfl, h2, h3⟩ := r
    unfold toPys at e
    cases q : toPy d with
    | none =>
      rw [q] at e
      cases e
    | some p =>
      rw [q] at e
      cases q2 : toPys ds with
      | none =>
        rw [q2] at e
        cases e
      | some ps' =>
        rw [q2] at e
        cases Option.some.inj e
        exact .cons (dp_of l d w p h2 q) (dps_of l ds ws ps' h3 q2)
end
end

/-! ### two-place operations -/
def dAdd : D → D → W D
  | .int i, .int j => fun P _ => P (.int (i + j))
  | .str x, .str y => fun P _ => x.length + y.length ≤ 16777216 ∧ P (.str (x ++ y))
  | .lst l, .lst m => fun P _ => l.length + m.length ≤ 16777216 ∧ P (.lst (l ++ m))
  | .tup l, .tup m => fun P _ => l.length + m.length ≤ 16777216 ∧ P (.tup (l ++ m))
  | _, _ => W.fail
def rAdd (K : PySem.W.Frag) : R2 := fun x y H Q => (rI0 (fun i j => .int (i + j)) x y H Q ∨ (∃ i j, x = .str i ∧ y = .str j ∧ i.length + j.length ≤ sizeLine ∧ Q (.str (i ++ j)) H)) ∨ (rCat x y H Q ∨ rCatA K x y H Q)
theorem op_dadd {X : Cx} : OpR X (binaryOp .Add) (rAdd X.K) := opr_or (opr_or op_add op_add_str) (opr_or op_cat op_catA)
theorem dadd_ok {X : Cx} {g : Gd} : Op2 X g dAdd (rAdd X.K) := fun a b x y B S H P Z Q f rx ry h k => by
  have sl := sizeLine_eq
  unfold dAdd at h
  split at h
  · unfold Rep at rx ry
    subst rx ry
    exact .inl (.inl ⟨_, _, rfl, rfl, k _ _ S H h (New.rf f.le) (by unfold Rep; rfl)⟩)
  · unfold Rep at rx ry
    subst rx ry
    exact .inl (.inr ⟨_, _, rfl, rfl, by omega, k _ _ S H h.2 (New.rf f.le) (by unfold Rep; rfl)⟩)
  · rename_i l m
    unfold Rep at rx ry
    obtain ⟨p, vs, rfl, h2, h3⟩ := rx
    obtain ⟨q, ws, rfl, h4, h5⟩ := ry
    have z1 := h3.len
    have z2 := h5.len
    have e1 : H p = some (.lst vs) := (f.le _ _ h2).resolve_right (fun z => by cases z.1)
    have e2 : H q = some (.lst ws) := (f.le _ _ h4).resolve_right (fun z => by cases z.1)
    refine .inr (.inl ⟨p, q, vs, ws, rfl, rfl, e1, e2, by omega, fun t ht => ?_⟩)
    have n := New.add (o := .lst (vs ++ ws)) f.le ht (fun ps z => by cases z)
    exact k _ _ _ _ h.2 n (by unfold Rep; exact ⟨t, _, rfl, upd_same, (h3.mono n.ss).app (h5.mono n.ss)⟩)
  · rename_i l m
    unfold Rep at rx ry
    obtain ⟨p, vs, rfl, h2, h3⟩ := rx
    obtain ⟨q, ws, rfl, h4, h5⟩ := ry
    have z1 := h3.len
    have z2 := h5.len
    refine .inr (.inr ⟨p, q, vs, ws, rfl, rfl, f.le.sqT h2, f.le.sqT h4, by omega, fun e => ?_, fun e e' => ?_, fun e e' t ht => ?_⟩)
    · subst e
      have e' : l = [] := List.length_eq_zero_iff.mp (by rw [z1]; rfl)
      subst e'
      exact k _ _ S H h.2 (New.rf f.le) (by unfold Rep; exact ⟨q, ws, rfl, h4, h5⟩)
    · subst e'
      have e' : m = [] := List.length_eq_zero_iff.mp (by rw [z2]; rfl)
      subst e'
      rw [List.append_nil] at h
      exact k _ _ S H h.2 (New.rf f.le) (by unfold Rep; exact ⟨p, vs, rfl, h2, h3⟩)
    · have n := New.add (o := .tup (vs ++ ws)) f.le ht (fun ps z => by cases z)
      exact k _ _ _ _ h.2 n (by unfold Rep; exact ⟨t, _, rfl, upd_same, (h3.mono n.ss).app (h5.mono n.ss)⟩)
  · exact h.elim
@[simp] theorem dAdd_ii (i j : Int) : dAdd (.int i) (.int j) = fun P _ => P (.int (i + j)) := rfl
@[simp] theorem dAdd_ss (x y : Str) : dAdd (.str x) (.str y) = fun P _ => x.length + y.length ≤ 16777216 ∧ P (.str (x ++ y)) := rfl
@[simp] theorem dAdd_ll (x y : List D) : dAdd (.lst x) (.lst y) = fun P _ => x.length + y.length ≤ 16777216 ∧ P (.lst (x ++ y)) := rfl
@[simp] theorem dAdd_tt (x y : List D) : dAdd (.tup x) (.tup y) = fun P _ => x.length + y.length ≤ 16777216 ∧ P (.tup (x ++ y)) := rfl
/-- an operation of two ints, under a condition -/
def dI (C : Int → Int → Prop) (f : Int → Int → D) : D → D → W D
  | .int i, .int j => fun P _ => C i j ∧ P (f i j)
  | _, _ => W.fail
@[simp] theorem dI_ii (C : Int → Int → Prop) (f : Int → Int → D) (i j : Int) : dI C f (.int i) (.int j) = fun P _ => C i j ∧ P (f i j) := rfl
theorem dI_ok {X : Cx} {g : Gd} {C : Int → Int → Prop} {f : Int → Int → D} {v : Int → Int → V} (hv : ∀ i j S, Rep X.K X.mg g S (f i j) (v i j)) : Op2 X g (dI C f) (rI C v) := fun a b x y B S H P Z Q fr rx ry h k => by
  unfold dI at h
  split at h
  · unfold Rep at rx ry
    subst rx ry
    exact ⟨_, _, rfl, rfl, h.1, k _ _ S H h.2 (New.rf fr.le) (hv _ _ _)⟩
  · exact h.elim
def dI0 (f : Int → Int → D) : D → D → W D
  | .int i, .int j => fun P _ => P (f i j)
  | _, _ => W.fail
@[simp] theorem dI0_ii (f : Int → Int → D) (i j : Int) : dI0 f (.int i) (.int j) = fun P _ => P (f i j) := rfl
theorem dI0_ok {X : Cx} {g : Gd} {f : Int → Int → D} {v : Int → Int → V} (hv : ∀ i j S, Rep X.K X.mg g S (f i j) (v i j)) : Op2 X g (dI0 f) (rI0 v) := fun a b x y B S H P Z Q fr rx ry h k => by
  unfold dI0 at h
  split at h
  · unfold Rep at rx ry
    subst rx ry
    exact ⟨_, _, rfl, rfl, k _ _ S H h (New.rf fr.le) (hv _ _ _)⟩
  · exact h.elim
theorem ri {K : PySem.W.Frag} {mg : Str → Option Value} {g : Gd} (i : Int) (S : Hp) : Rep K mg g S (.int i) (.int i) := by unfold Rep; rfl
theorem rb {K : PySem.W.Frag} {mg : Str → Option Value} {g : Gd} (i : Bool) (S : Hp) : Rep K mg g S (.bl i) (.bl i) := by unfold Rep; rfl
theorem rs {K : PySem.W.Frag} {mg : Str → Option Value} {g : Gd} (i : Str) (S : Hp) : Rep K mg g S (.str i) (.str i) := by unfold Rep; rfl
@[simp] def dSub : D → D → W D := dI0 fun i j => .int (i - j)
@[simp] def dMul : D → D → W D := dI CMulW fun i j => .int (i * j)
@[simp] def dDiv : D → D → W D := dI CDivW fun i j => .int (i / j)
@[simp] def dMod : D → D → W D := dI (fun _ j => 0 < j) fun i j => .int (i % j)
@[simp] def dPow : D → D → W D := dI CPow fun i j => .int (i ^ j.toNat)
@[simp] def dLt : D → D → W D := dI0 fun i j => .bl (decide (i < j))
@[simp] def dLe : D → D → W D := dI0 fun i j => .bl (decide (i ≤ j))
@[simp] def dGt : D → D → W D := dI0 fun i j => .bl (decide (j < i))
@[simp] def dGe : D → D → W D := dI0 fun i j => .bl (decide (j ≤ i))
def dEq (a b : D) : W D := fun P _ => match a, b with
  | .str x, .str y => P (.bl (decide (x = y)))
  | a, b => match toPy a, toPy b with
    | some p, some q => (SeqAt.shaped p = true ∧ SeqAt.shaped q = true) ∧ P (.bl (PyData.eqv p q))
    | _, _ => False
def dNe (a b : D) : W D := fun P _ => match a, b with
  | .str x, .str y => P (.bl (!decide (x = y)))
  | a, b => match toPy a, toPy b with
    | some p, some q => (SeqAt.shaped p = true ∧ SeqAt.shaped q = true) ∧ P (.bl (!PyData.eqv p q))
    | _, _ => False
def dIsN (a b : D) : W D := fun P _ => match b with
  | .non => P (.bl (match a with
    | .non => true
    | _ => false))
  | _ => False
def dNoN (a b : D) : W D := fun P _ => match b with
  | .non => P (.bl (match a with
    | .non => false
    | _ => true))
  | _ => False
section
variable {X : Cx} {g : Gd} {B : Hp × Hp} {E : XK} {a b c : Expr} {pos : Pos} {ma mb mc : EM}
theorem de_add (ha : DE X g B E a ma) (hb : DE X g B E b mb) : DE X g B E (.BinOp a .Add b pos) (e2 dAdd ma mb) := de_op op_dadd dadd_ok ha hb
theorem de_sub (ha : DE X g B E a ma) (hb : DE X g B E b mb) : DE X g B E (.BinOp a .Sub b pos) (e2 dSub ma mb) := de_op op_sub (dI0_ok fun i j S => ri _ S) ha hb
theorem de_mul (ha : DE X g B E a ma) (hb : DE X g B E b mb) : DE X g B E (.BinOp a .Mult b pos) (e2 dMul ma mb) := de_op op_mulW (dI_ok fun i j S => ri _ S) ha hb
theorem de_div (ha : DE X g B E a ma) (hb : DE X g B E b mb) : DE X g B E (.BinOp a .FloorDiv b pos) (e2 dDiv ma mb) := de_op op_fdivW (dI_ok fun i j S => ri _ S) ha hb
theorem de_mod (ha : DE X g B E a ma) (hb : DE X g B E b mb) : DE X g B E (.BinOp a .Mod b pos) (e2 dMod ma mb) := de_op op_mod (dI_ok fun i j S => ri _ S) ha hb
theorem de_pow (ha : DE X g B E a ma) (hb : DE X g B E b mb) : DE X g B E (.BinOp a .Pow b pos) (e2 dPow ma mb) := de_op op_pow (dI_ok fun i j S => ri _ S) ha hb
theorem dlt_ok : Op2 X g dLt (rI0 fun i j => .bl (decide (i < j))) := dI0_ok fun i j S => rb _ S
theorem dle_ok : Op2 X g dLe (rI0 fun i j => .bl (decide (i ≤ j))) := dI0_ok fun i j S => rb _ S
theorem dgt_ok : Op2 X g dGt (rI0 fun i j => .bl (decide (j < i))) := dI0_ok fun i j S => rb _ S
theorem dge_ok : Op2 X g dGe (rI0 fun i j => .bl (decide (j ≤ i))) := dI0_ok fun i j S => rb _ S
theorem dec_str {x y : Str} : decide (V.str x = V.str y) = decide (x = y) := by
  by_cases h : x = y
  · rw [decide_eq_true h, decide_eq_true (by rw [h])]
  · rw [decide_eq_false h, decide_eq_false (fun z => h (by cases z; rfl))]
@[simp] theorem dEq_ss (x y : Str) : dEq (.str x) (.str y) = fun P _ => P (.bl (decide (x = y))) := rfl
@[simp] theorem dNe_ss (x y : Str) : dNe (.str x) (.str y) = fun P _ => P (.bl (!decide (x = y))) := rfl
theorem deq_ok : Op2 X g dEq (fun x y H Q => rEq x y H Q ∨ rEqD X.K x y H Q) := fun a b x y B S H P Z Q f rx ry h k => by
  unfold dEq at h
  split at h
  · unfold Rep at rx ry
    subst rx ry
    refine .inl ⟨rfl, ?_⟩
    rw [dec_str]
    exact k _ _ S H h (New.rf f.le) (rb _ S)
  · split at h
    · rename_i p q e1 e2
      exact .inr ⟨p, q, dp_of f.le _ x p rx e1, dp_of f.le _ y q ry e2, h.1.1, h.1.2, k _ _ S H h.2 (New.rf f.le) (rb _ S)⟩
    · exact h.elim
theorem dne_ok : Op2 X g dNe (fun x y H Q => rNe x y H Q ∨ rNeD X.K x y H Q) := fun a b x y B S H P Z Q f rx ry h k => by
  unfold dNe at h
  split at h
  · unfold Rep at rx ry
    subst rx ry
    refine .inl ⟨rfl, ?_⟩
    rw [dec_str]
    exact k _ _ S H h (New.rf f.le) (rb _ S)
  · split at h
    · rename_i p q e1 e2
      exact .inr ⟨p, q, dp_of f.le _ x p rx e1, dp_of f.le _ y q ry e2, h.1.1, h.1.2, k _ _ S H h.2 (New.rf f.le) (rb _ S)⟩
    · exact h.elim
theorem op_eqE (hu : X.A.units + 64 < cLine) : OpR X (compareOp .Eq) (fun x y H Q => rEq x y H Q ∨ rEqD X.K x y H Q) := opr_or op_eq (op_eqD hu)
theorem op_neE (hu : X.A.units + 64 < cLine) : OpR X (compareOp .NotEq) (fun x y H Q => rNe x y H Q ∨ rNeD X.K x y H Q) := opr_or op_ne (op_neD hu)
theorem nonE {S : Hp} {d : D} {v : V} (r : Rep X.K X.mg g S d v) (hd : d ≠ .drw) : decide (v = V.non) = (match d with
    | .non => true
    | _ => false) := by
  cases d <;> first
    | (unfold Rep at r; subst r; first | rfl | exact decide_eq_false (fun z => by cases z))
    | (unfold Rep at r; obtain ⟨p, vs, rfl, _⟩ := r; exact decide_eq_false (fun z => by cases z))
    | (unfold Rep at r; obtain ⟨p, rfl, _⟩ := r; exact decide_eq_false (fun z => by cases z))
    | (unfold Rep at r; obtain ⟨p, q, t, vs, rfl, _⟩ := r; exact decide_eq_false (fun z => by cases z))
    | exact absurd rfl hd
    | (unfold Rep at r; obtain ⟨a, us, o, b, rfl, _⟩ := r; exact decide_eq_false (fun z => by cases z))
end
end DL

set_option Elab.async false
set_option linter.all false
set_option maxRecDepth 100000
set_option maxHeartbeats 2000000
/-! DP: further operations: is, chains, in, items, slices, built-in functions. -/
namespace DL
open PySem PySem.Spec PyProof.Rows L2

@[simp] def isNon : D → Option Bool
  | .non => some true
  | .drw => none
  | _ => some false
@[simp] def dIs (a b : D) : W D := fun P _ => match b, isNon a with
  | .non, some k => P (.bl k)
  | _, _ => False
@[simp] def dNs (a b : D) : W D := fun P _ => match b, isNon a with
  | .non, some k => P (.bl (!k))
  | _, _ => False
@[simp] def intsOf : List D → Option (List Int)
  | [] => some []
  | .int i :: r => (intsOf r).map fun is => i :: is
  | _ => none
@[simp] def bolsOf : List D → Option (List Bool)
  | [] => some []
  | .bl i :: r => (bolsOf r).map fun is => i :: is
  | _ => none
@[simp] def dIn (a b : D) : W D := fun P _ => match toPy a, b with
  | some p, .lst l => match toPys l with
    | some ps => (SeqAt.shaped p = true ∧ SeqAt.shaped (.list ps) = true) ∧ P (.bl (ps.any fun z => PyData.eqv z p))
    | none => False
  | _, _ => False
@[simp] def dNi (a b : D) : W D := fun P _ => match toPy a, b with
  | some p, .lst l => match toPys l with
    | some ps => (SeqAt.shaped p = true ∧ SeqAt.shaped (.list ps) = true) ∧ P (.bl (!ps.any fun z => PyData.eqv z p))
    | none => False
  | _, _ => False
/-- in a tuple of ints -/
@[simp] def dInT (a b : D) : W D := fun P _ => match a, b with
  | .int i, .tup l => match intsOf l with
    | some is => P (.bl (is.contains i))
    | none => False
  | _, _ => False
@[simp] def dNiT (a b : D) : W D := fun P _ => match a, b with
  | .int i, .tup l => match intsOf l with
    | some is => P (.bl (!is.contains i))
    | none => False
  | _, _ => False
@[simp] def dIx (a b : D) : W D := fun P _ => match a, b with
  | .lst l, .int i => match atI l i with
    | some d => P d
    | none => False
  | .tup l, .int i => match atI l i with
    | some d => P d
    | none => False
  | _, _ => False
def cutD (xs : List D) (lo hi : Option Int) : List D := (xs.drop (HT.sIx xs.length 0 lo)).take (HT.sIx xs.length xs.length hi - HT.sIx xs.length 0 lo)
@[simp] def eSl (a : EM) (lo hi : Ev → W (Option Int)) : EM := fun env P Z => a env (fun d => lo env (fun l => hi env (fun h => match d with
  | .lst xs => P (.lst (cutD xs l h))
  | .tup xs => P (.tup (cutD xs l h))
  | _ => False) Z) Z) Z
@[simp] def oNo : Ev → W (Option Int) := fun _ P _ => P none
@[simp] def oSo (a : EM) : Ev → W (Option Int) := fun env P Z => a env (fun d => match d with
  | .int i => P (some i)
  | _ => False) Z
@[simp] def eCh (f h : D → D → W D) (a b c : EM) : EM := fun env P Z => a env (fun x => b env (fun y => f x y (fun z => match z with
  | .bl k => if k = true then c env (fun w => h y w P Z) Z else P (.bl false)
  | _ => False) Z) Z) Z

section
variable {X : Cx} {g : Gd}
theorem ints_of {S : Hp} : ∀ {l : List D} {vs : List V} {is : List Int}, Reps X.K X.mg g S l vs → intsOf l = some is → vs = is.map V.int
  | [], vs, is, r, e => by
    unfold Reps at r
    subst r
    cases Option.some.inj e
    rfl
  | d :: l, vs, is, r, e => by
    unfold Reps at r
    obtain ⟨w, ws, rfl, h2, h3⟩ := r
    cases d <;> first
      | cases e
      | (rename_i i
         cases q : intsOf l with
         | none =>
           simp only [intsOf, q] at e
           cases e
         | some js =>
           simp only [intsOf, q] at e
           cases Option.some.inj e
           unfold Rep at h2
           rw [h2, ints_of h3 q]
           rfl)
theorem bols_of {S : Hp} : ∀ {l : List D} {vs : List V} {is : List Bool}, Reps X.K X.mg g S l vs → bolsOf l = some is → vs = is.map V.bl
  | [], vs, is, r, e => by
    unfold Reps at r
    subst r
    cases Option.some.inj e
    rfl
  | d :: l, vs, is, r, e => by
    unfold Reps at r
    obtain ⟨w, ws, rfl, h2, h3⟩ := r
    cases d <;> first
      | cases e
      | (rename_i i
         cases q : bolsOf l with
         | none =>
           simp only [bolsOf, q] at e
           cases e
         | some js =>
           simp only [bolsOf, q] at e
           cases Option.some.inj e
           unfold Rep at h2
           rw [h2, bols_of h3 q]
           rfl)
theorem isN_ok {S : Hp} {d : D} {v : V} {k : Bool} (r : Rep X.K X.mg g S d v) (e : isNon d = some k) : decide (v = V.non) = k := by
  have hd : d ≠ .drw := fun z => by
    rw [z] at e
    cases e
  rw [nonE r hd]
  cases d <;> first
    | exact Option.some.inj e
    | cases e
theorem dis_ok : Op2 X g dIs (fun x y H Q => y = .non ∧ Q (.bl (decide (x = .non))) H) := fun a b x y B S H P Z Q f rx ry h k => by
  unfold dIs at h
  split at h
  · rename_i kk e
    unfold Rep at ry
    refine ⟨ry, ?_⟩
    rw [isN_ok rx e]
    exact k _ _ S H h (New.rf f.le) (rb _ S)
  · exact h.elim
theorem dns_ok : Op2 X g dNs (fun x y H Q => y = .non ∧ Q (.bl (!decide (x = .non))) H) := fun a b x y B S H P Z Q f rx ry h k => by
  unfold dNs at h
  split at h
  · rename_i kk e
    unfold Rep at ry
    refine ⟨ry, ?_⟩
    rw [isN_ok rx e]
    exact k _ _ S H h (New.rf f.le) (rb _ S)
  · exact h.elim
theorem din_ok : Op2 X g dIn (rInD X.K) := fun a b x y B S H P Z Q f rx ry h k => by
  unfold dIn at h
  split at h
  · rename_i p l e1
    split at h
    · rename_i ps e2
      have hb : toPy (.lst l) = some (.list ps) := by
        unfold toPy
        rw [e2]
        rfl
      exact ⟨p, ps, dp_of f.le a x p rx e1, dp_of f.le _ y _ ry hb, h.1.1, h.1.2, k _ _ S H h.2 (New.rf f.le) (rb _ S)⟩
    · exact h.elim
  · exact h.elim
theorem dni_ok : Op2 X g dNi (rNotInD X.K) := fun a b x y B S H P Z Q f rx ry h k => by
  unfold dNi at h
  split at h
  · rename_i p l e1
    split at h
    · rename_i ps e2
      have hb : toPy (.lst l) = some (.list ps) := by
        unfold toPy
        rw [e2]
        rfl
      exact ⟨p, ps, dp_of f.le a x p rx e1, dp_of f.le _ y _ ry hb, h.1.1, h.1.2, k _ _ S H h.2 (New.rf f.le) (rb _ S)⟩
    · exact h.elim
  · exact h.elim
theorem inV_int (i : Int) : ∀ is : List Int, inV (.int i) (is.map V.int) = is.contains i
  | [] => rfl
  | j :: r => by
    have ih := inV_int i r
    unfold inV at ih ⊢
    rw [List.map_cons, List.any_cons, ih, List.contains_cons]
    show (j == i || _) = (i == j || _)
    rw [Bool.beq_comm]
theorem flat_int : ∀ is : List Int, (is.map V.int).all flatV = true
  | [] => rfl
  | j :: r => by
    rw [List.map_cons, List.all_cons, flat_int r]
    rfl
theorem dint_ok : Op2 X g dInT (rIn X.K false) := fun a b x y B S H P Z Q f rx ry h k => by
  unfold dInT at h
  split at h
  · rename_i i l
    split at h
    · rename_i is e
      unfold Rep at rx ry
      subst rx
      obtain ⟨p, vs, rfl, h2, h3⟩ := ry
      have ev := ints_of h3 e
      subst ev
      refine ⟨p, _, rfl, .inr (f.le.sqT h2), rfl, flat_int is, ?_⟩
      rw [inV_int]
      exact k _ _ S H h (New.rf f.le) (rb _ S)
    · exact h.elim
  · exact h.elim
theorem dnit_ok : Op2 X g dNiT (rIn X.K true) := fun a b x y B S H P Z Q f rx ry h k => by
  unfold dNiT at h
  split at h
  · rename_i i l
    split at h
    · rename_i is e
      unfold Rep at rx ry
      subst rx
      obtain ⟨p, vs, rfl, h2, h3⟩ := ry
      have ev := ints_of h3 e
      subst ev
      refine ⟨p, _, rfl, .inr (f.le.sqT h2), rfl, flat_int is, ?_⟩
      rw [inV_int]
      exact k _ _ S H h (New.rf f.le) (rb _ S)
    · exact h.elim
  · exact h.elim
theorem at_rep {S : Hp} {l : List D} {vs : List V} {i : Int} {d : D} (r : Reps X.K X.mg g S l vs) (e : atI l i = some d) : ∃ v, atI vs i = some v ∧ Rep X.K X.mg g S d v := by
  unfold atI at e ⊢
  rw [← r.len]
  cases q : ixN l.length i with
  | none =>
    rw [q] at e
    cases e
  | some j =>
    rw [q] at e
    exact r.got e
theorem dix_ok : Op2 X g dIx (fun x y H Q => rIxL X.K x y H Q ∨ rIxT X.K x y H Q) := fun a b x y B S H P Z Q f rx ry h k => by
  unfold dIx at h
  split at h
  · rename_i l i
    split at h
    · rename_i d e
      unfold Rep at rx ry
      subst ry
      obtain ⟨p, vs, rfl, h2, h3⟩ := rx
      obtain ⟨v, e1, e2⟩ := at_rep h3 e
      exact .inl ⟨p, vs, i, v, rfl, rfl, f.le.sqL (SqL.of h2), e1, k _ _ S H h (New.rf f.le) e2⟩
    · exact h.elim
  · rename_i l i
    split at h
    · rename_i d e
      unfold Rep at rx ry
      subst ry
      obtain ⟨p, vs, rfl, h2, h3⟩ := rx
      obtain ⟨v, e1, e2⟩ := at_rep h3 e
      exact .inr ⟨p, vs, i, v, rfl, rfl, f.le.sqT h2, e1, k _ _ S H h (New.rf f.le) e2⟩
    · exact h.elim
  · exact h.elim
theorem reps_take {S : Hp} : ∀ {l : List D} {vs : List V} (n : Nat), Reps X.K X.mg g S l vs → Reps X.K X.mg g S (l.take n) (vs.take n)
  | [], vs, n, r => by
    unfold Reps at r
    subst r
    simp [Reps]
  | d :: l, vs, 0, r => by
    simp [Reps]
  | d :: l, vs, n + 1, r => by
    unfold Reps at r
    obtain ⟨w, ws, rfl, h2, h3⟩ := r
    exact Reps.cons h2 (reps_take n h3)
theorem reps_drop {S : Hp} : ∀ {l : List D} {vs : List V} (n : Nat), Reps X.K X.mg g S l vs → Reps X.K X.mg g S (l.drop n) (vs.drop n)
  | [], vs, n, r => by
    unfold Reps at r
    subst r
    simp [Reps]
  | d :: l, vs, 0, r => r
  | d :: l, vs, n + 1, r => by
    unfold Reps at r
    obtain ⟨w, ws, rfl, h2, h3⟩ := r
    exact reps_drop n h3
theorem reps_cut {S : Hp} {l : List D} {vs : List V} (lo hi : Option Int) (r : Reps X.K X.mg g S l vs) : Reps X.K X.mg g S (cutD l lo hi) (cutV vs lo hi) := by
  unfold cutD cutV
  rw [r.len]
  exact reps_take _ (reps_drop _ r)
end
section
variable {X : Cx} {g : Gd} {B : Hp × Hp} {E : XK} {a b c : Expr} {pos p2 : Pos} {ma mb mc : EM} {lo hi : Option Expr} {ml mh : Ev → W (Option Int)}
def cloO (X : Cx) (g : Gd) (B : Hp × Hp) (E : XK) (m : Ev → W (Option Int)) : TO := fun σ H Q => ∃ env S P Z, Ok X.K X.mg g B env S σ H ∧ m env P Z ∧
  (∀ o S' H', P o → Ok X.K X.mg g B env S' σ H' → Ex S S' → Q o H') ∧ (∀ x cls dx S' H', Z x → Frm g B.1 B.2 S' H' → RepX X.K X.mg g S' cls dx x → E cls dx H')
def DO (X : Cx) (g : Gd) (B : Hp × Hp) (E : XK) (e : Option Expr) (m : Ev → W (Option Int)) : Prop := PO X e (cloO X g B E m)
theorem po_imp {X : Cx} {e : Option Expr} {t u : TO} (h : PO X e t) (i : ∀ σ H Q, u σ H Q → t σ H Q) : PO X e u := ⟨fun pins s σ H Q I q => h.run pins s σ H Q I (i σ H Q q)⟩
theorem do_no : DO X g B E none oNo := po_imp po_none fun σ H Q h => by
  obtain ⟨env, S, P, Z, ok, hm, k, kx⟩ := h
  exact k none S H hm ok (Ex.rf _)
theorem do_so (h : DE X g B E a ma) : DO X g B E (some a) (oSo ma) := po_imp (po_some h) fun σ H Q h => by
  obtain ⟨env, S, P, Z, ok, hm, k, kx⟩ := h
  refine ⟨env, S, _, Z, ok, hm, fun d v S' H' p ok' ex r => ?_, kx⟩
  cases d with
  | int i =>
    unfold Rep at r
    exact ⟨i, r, k _ S' H' p ok' ex⟩
  | _ => exact p.elim
theorem de_sl (ha : DE X g B E a ma) (hl : DO X g B E lo ml) (hh : DO X g B E hi mh) : DE X g B E (.Subscript a (.Slice lo hi none p2) pos) (eSl ma ml mh) := by
  refine pe_imp (pe_slice (SlR.or sl_list sl_tupA) ha hl hh) fun σ H Q h => ?_
  obtain ⟨env, S, P, Z, ok, hm, k, kx⟩ := h
  refine ⟨env, S, _, Z, ok, hm, fun d v S1 H1 p1 ok1 ex1 r1 => ?_, kx⟩
  refine ⟨env, S1, _, Z, ok1, p1, fun l S2 H2 p2 ok2 ex2 => ?_, kx⟩
  refine ⟨env, S2, _, Z, ok2, p2, fun u S3 H3 p3 ok3 ex3 => ?_, kx⟩
  have r := (r1.mono ex2).mono ex3
  have ex := (ex1.tr ex2).tr ex3
  cases d with
  | lst xs =>
    unfold Rep at r
    obtain ⟨p, vs, rfl, h2, h3⟩ := r
    refine .inl ⟨p, vs, rfl, ok3.frm.le.sqL (SqL.of h2), fun q hq => ?_⟩
    have n := New.add (o := .lst (cutV vs l u)) ok3.frm.le hq (fun ps z => by cases z)
    exact k _ _ _ _ p3 (ok3.new n) (ex.tr n.ss) (by unfold Rep; exact ⟨q, _, rfl, upd_same, (reps_cut l u h3).mono n.ss⟩)
  | tup xs =>
    unfold Rep at r
    obtain ⟨p, vs, rfl, h2, h3⟩ := r
    refine .inr ⟨p, vs, rfl, ok3.frm.le.sqT h2, fun e => ?_, fun e q hq => ?_⟩
    · refine k _ _ S3 H3 p3 ok3 ex ?_
      have ec : cutD xs l u = xs := by
        unfold cutD
        rw [h3.len, e.1, e.2, ← h3.len]
        simp
      rw [ec]
      unfold Rep
      exact ⟨p, vs, rfl, h2, h3⟩
    · have n := New.add (o := .tup (cutV vs l u)) ok3.frm.le hq (fun ps z => by cases z)
      exact k _ _ _ _ p3 (ok3.new n) (ex.tr n.ss) (by unfold Rep; exact ⟨q, _, rfl, upd_same, (reps_cut l u h3).mono n.ss⟩)
  | _ => exact p3.elim
theorem de_ix (ha : DE X g B E a ma) (hb : DE X g B E b mb) (hs : PlainIx b := by exact fun _ _ => rfl) : DE X g B E (.Subscript a b pos) (e2 dIx ma mb) := pe_imp (pe_ix (IxR.or ix_list ix_tup) ha hb hs) fun _ _ _ h => run2 dix_ok h
theorem ch_te {f h : D → D → W D} {r r' : R2} (hf : Op2 X g f r) (hh : Op2 X g h r') {σ : L2.St} {H : Hp} {Q : VK} (q : clo X g B E (eCh f h ma mb mc) σ H Q) : tChain r r' (clo X g B E ma) (clo X g B E mb) (clo X g B E mc) σ H Q := by
  obtain ⟨env, S, P, Z, ok, hm, k, kx⟩ := q
  refine ⟨env, S, _, Z, ok, hm, fun d v S1 H1 p1 ok1 ex1 r1 => ?_, kx⟩
  refine ⟨env, S1, _, Z, ok1, p1, fun d2 v2 S2 H2 p2 ok2 ex2 r2 => ?_, kx⟩
  refine hf d d2 v v2 B S2 H2 _ Z _ ok2.frm (r1.mono ex2) r2 p2 fun z w S3 H3 p3 n r3 => ?_
  cases z with
  | bl kk =>
    unfold Rep at r3
    refine ⟨kk, r3, ?_⟩
    have ok3 := ok2.new n
    cases kk with
    | false => exact k (.bl false) _ S3 H3 p3 ok3 ((ex1.tr ex2).tr n.ss) (rb _ _)
    | true =>
      replace p3 : mc env (fun w => h d2 w P Z) Z := p3
      rw [if_pos rfl]
      refine ⟨env, S3, _, Z, ok3, p3, fun d4 v4 S4 H4 p4 ok4 ex4 r4 => ?_, kx⟩
      exact hh d2 d4 v2 v4 B S4 H4 P Z _ ok4.frm ((r2.mono n.ss).mono ex4) r4 p4 fun d5 v5 S5 H5 p5 n5 r5 => k d5 v5 S5 H5 p5 (ok4.new n5) ((((ex1.tr ex2).tr n.ss).tr ex4).tr n5.ss) r5
  | _ => exact p3.elim
theorem de_ch {op op' : CmpOp} {f h : D → D → W D} {r r' : R2} (ho : OpR X (compareOp op) r) (ho' : OpR X (compareOp op') r') (hf : Op2 X g f r) (hh : Op2 X g h r') (ha : DE X g B E a ma) (hb : DE X g B E b mb) (hc : DE X g B E c mc)
    (hm : lastMarks [op, op'] [b, c] = false := by with_unfolding_all rfl) : DE X g B E (.Compare a [op, op'] [b, c] pos) (eCh f h ma mb mc) := pe_imp (pe_chain ho ho' ha hb hc hm) fun _ _ _ q => ch_te hf hh q
theorem dt_ch {op op' : CmpOp} {f h : D → D → W D} {r r' : R2} (ho : OpR X (compareOp op) r) (ho' : OpR X (compareOp op') r') (hf : Op2 X g f r) (hh : Op2 X g h r') (ha : DE X g B E a ma) (hb : DE X g B E b mb) (hc : DE X g B E c mc)
    (hm : lastMarks [op, op'] [b, c] = false := by with_unfolding_all rfl) : DT X g B E (.Compare a [op, op'] [b, c] pos) (tBo (eCh f h ma mb mc)) := dt_of (t := clo X g B E (eCh f h ma mb mc)) (pt_chain ho ho' ha hb hc hm) fun _ _ _ q => ch_te hf hh q
end

/-! ### built-in functions -/
@[simp] def bLen : List D → W D := fun as P _ => match as with
  | [.str x] => x.length ≤ 16777216 ∧ P (.int x.length)
  | [.lst l] => P (.int l.length)
  | [.tup l] => P (.int l.length)
  | [.scr l] => P (.int l.length)
  | _ => False
@[simp] def bTup : List D → W D := fun as P _ => match as with
  | [.lst l] => P (.tup l)
  | [.tup l] => P (.tup l)
  | _ => False
@[simp] def bLst : List D → W D := fun as P _ => match as with
  | [.lst l] => P (.lst l)
  | [.tup l] => P (.lst l)
  | _ => False
@[simp] def bSum : List D → W D := fun as P _ => match as with
  | [.lst l] => match intsOf l with
    | some is => P (.int is.sum)
    | none => False
  | _ => False
@[simp] def bAny : List D → W D := fun as P _ => match as with
  | [.lst l] => match bolsOf l with
    | some is => P (.bl (is.any id))
    | none => False
  | _ => False
@[simp] def bAll : List D → W D := fun as P _ => match as with
  | [.lst l] => match bolsOf l with
    | some is => P (.bl (is.all id))
    | none => False
  | _ => False
@[simp] def bMin2 : List D → W D := fun as P _ => match as with
  | [.int i, .int j] => P (.int (if j < i then j else i))
  | _ => False
@[simp] def bMax2 : List D → W D := fun as P _ => match as with
  | [.int i, .int j] => P (.int (if j > i then j else i))
  | _ => False
@[simp] def bAbs : List D → W D := fun as P _ => match as with
  | [.int i] => P (.int (if i < 0 then -i else i))
  | _ => False
@[simp] def bInt : List D → W D := fun as P _ => match as with
  | [.int i] => P (.int i)
  | [.bl k] => P (.int (if k then 1 else 0))
  | _ => False
section
variable {X : Cx} {g : Gd}
theorem rep1 {S : Hp} {d : D} {xs : List V} (r : Reps X.K X.mg g S [d] xs) : ∃ x, xs = [x] ∧ Rep X.K X.mg g S d x := by
  unfold Reps at r
  obtain ⟨w, ws, rfl, h2, h3⟩ := r
  unfold Reps at h3
  subst h3
  exact ⟨w, rfl, h2⟩
theorem rep2 {S : Hp} {d e : D} {xs : List V} (r : Reps X.K X.mg g S [d, e] xs) : ∃ x y, xs = [x, y] ∧ Rep X.K X.mg g S d x ∧ Rep X.K X.mg g S e y := by
  unfold Reps at r
  obtain ⟨w, ws, rfl, h2, h3⟩ := r
  obtain ⟨y, rfl, h4⟩ := rep1 h3
  exact ⟨w, y, rfl, h2, h4⟩
theorem blen_ok : OpA X g bLen (fun xs H Q => ∃ x n, xs = [x] ∧ LenV X.K x H n ∧ Q (.int n) H) := fun as xs B S H P Z Q f r h k => by
  have sl := sizeLine_eq
  unfold bLen at h
  split at h
  · obtain ⟨x, rfl, rx⟩ := rep1 r
    unfold Rep at rx
    subst rx
    exact ⟨_, _, rfl, ⟨by omega, rfl⟩, k _ _ S H h.2 (New.rf f.le) (ri _ S)⟩
  · obtain ⟨x, rfl, rx⟩ := rep1 r
    unfold Rep at rx
    obtain ⟨p, vs, rfl, h2, h3⟩ := rx
    refine ⟨_, vs.length, rfl, .inl ⟨vs, f.le.sqL (SqL.of h2), rfl⟩, ?_⟩
    rw [← h3.len]
    exact k _ _ S H h (New.rf f.le) (ri _ S)
  · obtain ⟨x, rfl, rx⟩ := rep1 r
    unfold Rep at rx
    obtain ⟨p, vs, rfl, h2, h3⟩ := rx
    refine ⟨_, vs.length, rfl, .inr ⟨vs, f.le.sqT h2, rfl⟩, ?_⟩
    rw [← h3.len]
    exact k _ _ S H h (New.rf f.le) (ri _ S)
  · obtain ⟨x, rfl, rx⟩ := rep1 r
    rename_i l
    unfold Rep at rx
    obtain ⟨p, rfl, h2⟩ := rx
    refine ⟨_, (l.map V.int).length, rfl, .inl ⟨_, f.le.sqL h2, rfl⟩, ?_⟩
    rw [List.length_map]
    exact k _ _ S H h (New.rf f.le) (ri _ S)
  · exact h.elim
theorem btup_ok : OpA X g bTup (fun xs H Q => ∃ p ys, xs = [.ref p] ∧ ((SqL X.K H p ys ∧ ∀ l, H l = none → Q (.ref l) (upd H l (.tup ys))) ∨ (SqT X.K H p ys ∧ Q (.ref p) H))) := fun as xs B S H P Z Q f r h k => by
  unfold bTup at h
  split at h
  · obtain ⟨x, rfl, rx⟩ := rep1 r
    unfold Rep at rx
    obtain ⟨p, vs, rfl, h2, h3⟩ := rx
    refine ⟨p, vs, rfl, .inl ⟨f.le.sqL (SqL.of h2), fun q hq => ?_⟩⟩
    have n := New.add (o := .tup vs) f.le hq (fun ps z => by cases z)
    exact k _ _ _ _ h n (by unfold Rep; exact ⟨q, _, rfl, upd_same, h3.mono n.ss⟩)
  · obtain ⟨x, rfl, rx⟩ := rep1 r
    unfold Rep at rx
    obtain ⟨p, vs, rfl, h2, h3⟩ := rx
    exact ⟨p, vs, rfl, .inr ⟨f.le.sqT h2, k _ _ S H h (New.rf f.le) (by unfold Rep; exact ⟨p, vs, rfl, h2, h3⟩)⟩⟩
  · exact h.elim
theorem blst_ok : OpA X g bLst (fun xs H Q => ∃ p ys, xs = [.ref p] ∧ (SqL X.K H p ys ∨ SqT X.K H p ys) ∧ ∀ l, H l = none → Q (.ref l) (upd H l (.lst ys))) := fun as xs B S H P Z Q f r h k => by
  unfold bLst at h
  split at h
  · obtain ⟨x, rfl, rx⟩ := rep1 r
    unfold Rep at rx
    obtain ⟨p, vs, rfl, h2, h3⟩ := rx
    refine ⟨p, vs, rfl, .inl (f.le.sqL (SqL.of h2)), fun q hq => ?_⟩
    have n := New.add (o := .lst vs) f.le hq (fun ps z => by cases z)
    exact k _ _ _ _ h n (by unfold Rep; exact ⟨q, _, rfl, upd_same, h3.mono n.ss⟩)
  · obtain ⟨x, rfl, rx⟩ := rep1 r
    unfold Rep at rx
    obtain ⟨p, vs, rfl, h2, h3⟩ := rx
    refine ⟨p, vs, rfl, .inr (f.le.sqT h2), fun q hq => ?_⟩
    have n := New.add (o := .lst vs) f.le hq (fun ps z => by cases z)
    exact k _ _ _ _ h n (by unfold Rep; exact ⟨q, _, rfl, upd_same, h3.mono n.ss⟩)
  · exact h.elim
theorem bsum_ok : OpA X g bSum (rSum X.K) := fun as xs B S H P Z Q f r h k => by
  unfold bSum at h
  split at h
  · split at h
    · rename_i is e
      obtain ⟨x, rfl, rx⟩ := rep1 r
      unfold Rep at rx
      obtain ⟨p, vs, rfl, h2, h3⟩ := rx
      have ev := ints_of h3 e
      subst ev
      exact ⟨p, is, rfl, f.le.sqL (SqL.of h2), k _ _ S H h (New.rf f.le) (ri _ S)⟩
    · exact h.elim
  · exact h.elim
theorem bany_ok : OpA X g bAny (rAny X.K) := fun as xs B S H P Z Q f r h k => by
  unfold bAny at h
  split at h
  · split at h
    · rename_i is e
      obtain ⟨x, rfl, rx⟩ := rep1 r
      unfold Rep at rx
      obtain ⟨p, vs, rfl, h2, h3⟩ := rx
      have ev := bols_of h3 e
      subst ev
      exact ⟨p, is, rfl, f.le.sqL (SqL.of h2), k _ _ S H h (New.rf f.le) (rb _ S)⟩
    · exact h.elim
  · exact h.elim
theorem ball_ok : OpA X g bAll (rAll X.K) := fun as xs B S H P Z Q f r h k => by
  unfold bAll at h
  split at h
  · split at h
    · rename_i is e
      obtain ⟨x, rfl, rx⟩ := rep1 r
      unfold Rep at rx
      obtain ⟨p, vs, rfl, h2, h3⟩ := rx
      have ev := bols_of h3 e
      subst ev
      exact ⟨p, is, rfl, f.le.sqL (SqL.of h2), k _ _ S H h (New.rf f.le) (rb _ S)⟩
    · exact h.elim
  · exact h.elim
theorem bmin2_ok : OpA X g bMin2 (fun xs H Q => ∃ i j, xs = [.int i, .int j] ∧ Q (.int (if j < i then j else i)) H) := fun as xs B S H P Z Q f r h k => by
  unfold bMin2 at h
  split at h
  · obtain ⟨x, y, rfl, rx, ry⟩ := rep2 r
    unfold Rep at rx ry
    subst rx ry
    exact ⟨_, _, rfl, k _ _ S H h (New.rf f.le) (ri _ S)⟩
  · exact h.elim
theorem bmax2_ok : OpA X g bMax2 (fun xs H Q => ∃ i j, xs = [.int i, .int j] ∧ Q (.int (if j > i then j else i)) H) := fun as xs B S H P Z Q f r h k => by
  unfold bMax2 at h
  split at h
  · obtain ⟨x, y, rfl, rx, ry⟩ := rep2 r
    unfold Rep at rx ry
    subst rx ry
    exact ⟨_, _, rfl, k _ _ S H h (New.rf f.le) (ri _ S)⟩
  · exact h.elim
theorem babs_ok : OpA X g bAbs (fun xs H Q => ∃ i, xs = [.int i] ∧ Q (.int (if i < 0 then -i else i)) H) := fun as xs B S H P Z Q f r h k => by
  unfold bAbs at h
  split at h
  · obtain ⟨x, rfl, rx⟩ := rep1 r
    unfold Rep at rx
    subst rx
    exact ⟨_, rfl, k _ _ S H h (New.rf f.le) (ri _ S)⟩
  · exact h.elim
theorem bint_ok : OpA X g bInt (fun xs H Q => (∃ i, xs = [.int i] ∧ Q (.int i) H) ∨ ∃ k, xs = [.bl k] ∧ Q (.int (if k then 1 else 0)) H) := fun as xs B S H P Z Q f r h k => by
  unfold bInt at h
  split at h
  · obtain ⟨x, rfl, rx⟩ := rep1 r
    unfold Rep at rx
    subst rx
    exact .inl ⟨_, rfl, k _ _ S H h (New.rf f.le) (ri _ S)⟩
  · obtain ⟨x, rfl, rx⟩ := rep1 r
    unfold Rep at rx
    subst rx
    exact .inr ⟨_, rfl, k _ _ S H h (New.rf f.le) (ri _ S)⟩
  · exact h.elim
end
end DL

set_option Elab.async false
set_option linter.all false
set_option maxRecDepth 100000
set_option maxHeartbeats 4000000
/-! DQ: own exceptions whose __init__ says super().__init__(text); self.f = part. -/
namespace DL
open PySem PySem.Spec PyProof.Rows L2

/-- the written part of such a class: C its object, fI its __init__, y the parameter, fn the field -/
structure SupC (P : Program) (K : PySem.W.Frag) (mg : Str → Option Value) (C fI : Addr) (y fn : Str) : Prop where
  cls : ∃ nm q N bs bm sn sub ab col dd k0 k1 k2 k3 k5, K.lookup C = some (excClassObj nm q C N bs bm true sn sub ab col dd k0 k1 k2 k3 k5 "ValueError.__new__") ∧ PySem.HandSPX.refsVE bm = true
  ini : PySem.W.findIn K (.ref C) "__init__" = some (some (.ref fI))
  typ : PySem.W.typeIn K (.ref fI) = some (.type "function")
  sa : PySem.W.findIn K (.ref C) "__setattr__" = some (some (.builtin "object.__setattr__"))
  exC : PySem.W.subIn K (.ref C) (.type "BaseException") = some true
  veC : PySem.W.subIn K (.ref C) (.type "ValueError") = some true
  slf : PySem.W.subIn K (.ref C) (.ref C) = some true
  tyC : PySem.W.typeIn K (.ref C) = some (.type "type")
  kC : PySem.W.keepIn K (.ref C) = true
  no : PySem.W.findIn K (.ref C) fn = some none
  opq : PySem.W.nsIn K PySem.cStatics "thirdparty.any" = some none
  sup : PySem.W.ks_superIn K C C "__init__" = some (some (.builtin "ValueError.__init__"))
  msu : mg "super" = none
  top : (P.main.scope.names.lookup ("super" : Str)).isSome = false
  fnc : ∃ (name qual m : Str) (params : Arguments) (q1 q2 p0 p1 p2 p3 p4 p5 p6 p7 p8 p9 : Pos) (j : Nat) (scope : Scope) (dV kV doc pm : Value) (an : Option Addr) (cda cc : Addr) (ct oc cl ccl : Value) (od cld cdd : Option Addr) (osl csl ccs : Array (Option Value)) (vs : Array Value) (file : Str) (tf : Tok),
    K.lookup fI = some ⟨oc, od, .func (PySem.W.ksFn name qual params [.Expr (.Call (.Attribute (.Call (.Name "super" p0) [] [] p1) "__init__" p2) [.Constant (.str m) j p3] [] p4) p5,
      .Assign [.Attribute (.Name "self" p6) fn p7] (.Name y p8) p9] scope dV kV doc pm an (.ref cda) ct cc), osl⟩ ∧
    params = { posonlyargs := [], args := [⟨"self", none, q1⟩, ⟨y, none, q2⟩], vararg := none, kwonlyargs := [], kw_defaults := [], kwarg := none, defaults := [] } ∧
    PySem.W.codeIn K (.ref cda) qual = true ∧ K.lookup cda = some ⟨ccl, cdd, .fields vs, ccs⟩ ∧ vs[2]? = some (.str file tf) ∧ ((P.main.file : Str) == file) = true ∧ K.lookup cc = some ⟨cl, cld, .cell (some (.ref C)), csl⟩ ∧
    scope.kind = .function ∧ scope.isCoroutine = false ∧ scope.isGenerator = false ∧ (∀ x ∈ scope.names, x.2 ≠ .cell) ∧ scope.names.lookup ("self" : Str) = some .local ∧ scope.names.lookup y = some .local ∧ scope.names.lookup ("super" : Str) = some .globalImplicit ∧
    scope.names.lookup ("__class__" : Str) = some .free ∧
    (∀ a b : Value, bindArgs (PySem.W.ksFn name qual params [.Expr (.Call (.Attribute (.Call (.Name "super" p0) [] [] p1) "__init__" p2) [.Constant (.str m) j p3] [] p4) p5,
      .Assign [.Attribute (.Name "self" p6) fn p7] (.Name y p8) p9] scope dV kV doc pm an (.ref cda) ct cc) ⟨[a, b], []⟩ = pure [(("self" : Str), a), (y, b)]) ∧
    (∀ env : Env, ∃ pl : Sem Bool, eval (.Call (.Attribute (.Call (.Name "super" p0) [] [] p1) "__init__" p2) [.Constant (.str m) j p3] [] p4) env = (do
      let ov ← attributeBase (.Call (.Name "super" p0) [] [] p1) "__init__" env (eval (.Call (.Name "super" p0) [] [] p1) env)
      standAt p2.atName
      let (f, first) ← holding [ov] (getMethod ov "__init__" pl)
      callWith p4 f first (backTo p4 (starEach [.Constant (.str m) j p3] env)) []))
  ny : (y == ("self" : Str)) = false ∧ (y == ("__debug__" : Str)) = false ∧ (fn == ("__class__" : Str)) = false

section
open PySem.W PySem.Calls
variable {P : Program} {w : World} {K : Frag} {mg mb : Str → Option Value} {C fI e t0 : Addr} {y fn : Str} {A : Around} {R : Result → Shared → Prop} {E : Value → Shared → Prop} {u : Value}
/-- the bound built-in __init__, called -/
theorem mw_call {hp : Heap} {g : Array GenState} {d : Drawn} {t : Nat} {os : OsState} {mw : Addr} {vs : List Value} {Q : Value → Shared → Prop} (X : K.In hp) (T : SupC P K mg C fI y fn) (he : hp.get? e = some (HandSPX.excO C t0)) (hm : hp.get? mw = some (kxs_mw "ValueError.__init__" e)) (hl : vs.length ≤ sizeLine)
    (hq : ∀ h2 t2, (∀ b o, b ≠ e → hp.get? b = some o → h2.get? b = some o) → h2.get? e = some (HandSPX.excO C t2) → Q .none ⟨h2, g, d, t, os⟩) : wpAny (model P w) A (call (.ref mw) vs) Q E ⟨hp, g, d, t, os⟩ := by
  obtain ⟨nm, q, N, bs, bm, sn, sub, ab, col, dd, k0, k1, k2, k3, k5, lC, hbm⟩ := T.cls
  have FB := F.excBase_ValueError
  refine wpAny_call (codeAny_of_tree ?_)
  show wpAny _ A.in1 (callAny (.ref mw) { pos := vs }) _ _ _
  simp only [callAny]
  refine wpAny_bind (wpAny_load hm ?_)
  simp only [kxs_mw]
  rw [if_pos (by decide)]
  refine wpAny_bind (check_bound_init FB.toExcCallFacts (X _ _ lC) he rfl ?_)
  refine wpAny_bind (wpAny_pure (wpAny_pure ⟨plainId_quiet FB.init.plain _, ?_⟩))
  refine codeAny_builtin FB.initEntry ?_
  exact exc_init_tree (t0 := t0) (dv := none) (c2 := .none) (c3 := .none) (b4 := .bool false) he hl fun h2 k e2 _ => hq h2 _ k e2
/-- the body of __init__ -/
theorem sup_run {hp : Heap} {g : Array GenState} {d : Drawn} {t : Nat} {os : OsState} (X : K.In hp) (hlim : hp.NoLimit) (hgl : hp.Ns mainGlobals mg) (hbl : hp.Ns builtinsNs mb) (hbb : ∀ x : Str, x ≠ "__name__" → mb x = bootBuiltins x) (hroom : A.depth < recursionLimit)
    (T : SupC P K mg C fI y fn) (he : hp.get? e = some (HandSPX.excO C t0)) (neK : ∀ b o, K.lookup b = some o → b ≠ e)
    (hq : ∀ h2 tk dx t2, (∀ b o, b ≠ e → hp.get? b = some o → h2.get? b = some o) → e < dx → h2.get? e = some ({ cls := .ref C, dict := some dx, data := .fields #[.ref t2, .none, .none, .none, .bool false, .none] } : Obj) →
      h2.Ns1 dx (fun z => if z = fn then some u else none) → R (.ok (.ret .none)) ⟨h2, g, d, tk, os⟩) : codeAny (model P w) A (.call (.ref fI) ⟨[.ref e, u], []⟩) R ⟨hp, g, d, t, os⟩ := by
  obtain ⟨name, qual, m, params, q1, q2, p0, p1, p2, p3, p4, p5, p6, p7, p8, p9, j, scope, dV, kV, doc, pm, an, cda, cc, ct, oc, cl, ccl, od, cld, cdd, osl, csl, ccs, vs, file, tf, lf, hpar, hcd, lcd, hvs, hfile, lcc, hk, hco, hgen, hcell, hs, hy, hsu, hcl, hbd, hev⟩ := T.fnc
  obtain ⟨nm, q, N, bs, bm, sn, sub, ab, col, dd, k0, k1, k2, k3, k5, lC, hbm⟩ := T.cls
  obtain ⟨ny1, ny2, nf⟩ := T.ny
  have nys : y ≠ ("self" : Str) := by simpa using ny1
  subst hpar
  have hcC : clsIn K C = some { name := nm, bases := bs, mro := .ref C :: bm, ns := N, qualname := q, hasDict := true, slotNames := sn, subclasses := sub, abstract := ab, collection := col, hasDel := false } := by unfold clsIn; rw [lC] <;> rfl
  refine ks_codeAny_call_defAt (binds := [("self", .ref e), (y, u)]) hroom (X _ _ lf) rfl hlim (codeRec_of X hcd) rfl (BindsTo.of_eq (hbd _ _)) hcell (fun b hb => ?_) (fun h1 hns kp => ?_) hco hgen hk
  · rcases List.mem_cons.mp hb with rfl | hb
    · exact hs
    · rw [List.mem_singleton.mp hb]
      exact hy
  have nb : (("self" : Str) == y) = false := beq_eq_false_iff_ne.mpr fun z => nys z.symm
  obtain ⟨mL, hmL⟩ : ∃ mL : Str → Option Value, mL = fun x => List.lookup x (List.reverse [(("self" : Str), Value.ref e), (y, u)]) := ⟨_, rfl⟩
  have hns' : h1.Ns hp.objs.size mL := by rw [hmL]; exact hns
  have m1 : mL ("self" : Str) = some (.ref e) := by
    rw [hmL]
    show List.lookup _ [(y, u), (("self" : Str), Value.ref e)] = _
    simp only [List.lookup, nb, beq_self_eq_true]
  have m2 : mL y = some u := by
    rw [hmL]
    show List.lookup _ [(y, u), (("self" : Str), Value.ref e)] = _
    simp only [List.lookup, beq_self_eq_true]
  have X1 := X.keeps kp
  have he1 := kp _ _ he
  have hfr := Heap.lt_size he
  obtain ⟨pl, hpl⟩ := hev (callEnv (ksFn name qual { posonlyargs := [], args := [⟨"self", none, q1⟩, ⟨y, none, q2⟩], vararg := none, kwonlyargs := [], kw_defaults := [], kwarg := none, defaults := [] } _ scope dV kV doc pm an (.ref cda) ct cc) hp.objs.size fI)
  refine ks_wpAt_execs_cons (ks_wpAt_Expr_any (ks_wpAt_MethodCall (pl := pl) ?_ hpl) (hi := by show (scope.kind == .module && _) = false; rw [hk]; rfl))
  refine ks_wpAt_super_base hsu hcl rfl rfl (X1 _ _ lf) rfl rfl rfl (X1 _ _ lcd) rfl hvs hfile T.top ?_
  refine ks_loadName_global hk hsu (loadGlobal_builtin (hgl.keeps kp) T.msu (hbl.keeps kp) ((hbb _ (by decide)).trans (by first | boot_by_name | rfl | kernel_rfl)) ⟨rfl, ?_⟩)
  refine wpAny_loadName_free hk hcl rfl ⟨_, X1 _ _ lcc, rfl⟩ ?_
  refine wpAny_loadName_local hk hs hns' m1 ?_
  refine ks_wpAny_isType_cls (X1 _ _ lC) rfl ⟨rfl, ?_⟩
  refine ks_wpAny_call_super (X1 _ _ lC) rfl he1 rfl (fun c z => by cases z) (looks_subIn X1 T.slf) (fun h2 so k2 => ?_)
  have X2 := X1.keeps k2
  have he2 := k2 _ _ he1
  have I2 : InstAt h2 e (HandSPX.excO C t0) C none := ⟨he2, rfl, rfl, trivial⟩
  have hsp := T.sup
  unfold ks_superIn at hsp
  rw [hcC] at hsp
  refine kxs_getMethod kxs_ValueError so (looks_opaque X2 T.opq) (l₀ := .ref C :: bm) ((looks_clsIn X2 hcC).andThen .now) rfl X2 hsp (I2.type.andThen (looks_subIn X2 T.veC)) (ks_ne X2 I2 hcC) rfl ?_
  have k3 : ∀ b o, h2.get? b = some o → (h2.push (kxs_mw "ValueError.__init__" e)).get? b = some o := fun b o z => Heap.get?_push_of_some _ z
  have hmw : (h2.push (kxs_mw "ValueError.__init__" e)).get? h2.objs.size = some (kxs_mw "ValueError.__init__" e) := Heap.get?_push_at rfl rfl
  refine kxs_callWith (i := "ValueError.__init__") (x := e) rfl ?_
  show wpAny _ _ (evalArgs _ true [(false, eval (.Constant (.str m) j p3) _)] []) _ _ _
  refine evalArgs_plain (spliced_cons (wpAny_Constant_str (spliced_nil ⟨hmw, ?_⟩)))
  refine mw_call (X2.keeps k3) T (k3 _ _ he2) hmw (by show 1 ≤ sizeLine; rw [sizeLine_eq]; omega) fun h4 t4 k4 he4 => ?_
  have kk : ∀ b o, b ≠ e → hp.get? b = some o → h4.get? b = some o := fun b o nb z => k4 b o nb (k3 b o (k2 b o (kp b o z)))
  have X4 : K.In h4 := fun b o z => kk b o (neK b o z) (X _ _ z)
  have hns4 : h4.Ns hp.objs.size mL := hns'.at fun o z => k4 _ o (Nat.ne_of_gt hfr) (k3 _ o (k2 _ o z))
  refine ks_wpAt_execs_cons (ks_wpAt_Assign_Attr (wpAt_of_wpAny (wpAny_Name (wpAny_loadName_local hk hy hns4 m2 (wpAny_Name (wpAny_loadName_local hk hs hns4 m1 ?_) rfl)) ny2)))
  refine set_plain X4 (ox := { cls := .ref C, dict := none, data := .fields #[.ref t4, .none, .none, .none, .bool false, .none] }) (od := none) ⟨he4, rfl, rfl, trivial⟩ T.sa ?_
  refine HandSPX.exc_osa X4 he4 hcC (show HandSPX.refsVE (.ref C :: bm) = true from hbm) rfl T.no fun h5 t5 dx k5 ge ne he5 hns5 => ?_
  refine wpAt_of_wpAny (wpAny_execs_nil ?_)
  refine hq h5 t5 dx t4 (fun b o nb z => k5 b o nb (kk b o nb z)) (Nat.lt_of_lt_of_le (Heap.lt_size he4) ge) he5 hns5
end
section
variable {X : Cx} {C fI : Addr} {x y fn : Str} {p pos : Pos} {e : Expr} {ta : TE} {k : Nat}
/-- C(e): a new exception, its dict with the one field -/
def tSup (C : Addr) (fn : Str) (ta : TE) : L2.St → Hp → XK → Prop := fun σ H Q => ta σ H fun v H1 => ∀ d, H1 d = none → Q (.ref C) (some d) (upd H1 d (.xd [(fn, v)]))
theorem pmk_sup (T : SupC X.prog X.K X.mg C fI y fn) (hr : Room (k + 1) X.A) (hg : Gl X x) (hm : X.mg x = some (.ref C)) (ha : PE X e ta)
    (hdb : (x == ("__debug__" : Str)) = false := by decide) (he : starEach [e] X.env = (false, eval e X.env) :: starEach [] X.env := by rfl) (hpl : (backTo pos (starEach [] X.env)).any (·.1) = false := by rfl) :
    PMk X (.Call (.Name x p) [e] [] pos) (tSup C fn ta) := fun pins s σ H Q I h => by
  obtain ⟨nm, q, N, bs, bm, sn, sub, ab, col, dd, k0, k1, k2, k3, k5, hC, hbm⟩ := T.cls
  obtain ⟨mb, hmb, hbb⟩ := I.ok.mod.blt
  have ha2 : PA X [e] (tCons ta tNil) := pa_cons ha pa_nil he
  refine wpAny_Call_Name_kw (ld_glob I hg hm ?_ hdb)
  refine PySem.W.callWith_K (h₀ := X.base) I.ok.mod.kin T.kC (thn (ha2.run pos pins s σ H (fun vs H1 => match vs with
    | [v] => ∀ d, H1 d = none → Q (.ref C) (some d) (upd H1 d (.xd [(fn, v)]))
    | _ => False) I h) fun us s1 hh => ?_) he hpl
  obtain ⟨vs, H1, I1, r1, hq⟩ := hh
  match vs, hq with
  | [v], hq =>
  refine ⟨I1.kIn, ?_⟩
  cases r1 with
  | cons ru rn =>
  rename_i u us2
  cases rn
  show wpAny _ _ (call (.ref C) [u]) _ _ _
  obtain ⟨hp, g, dr, tk, os⟩ := s1
  have hlt : hp.objs.size < hp.objs.size + 1 := Nat.lt_succ_self _
  have old : ∀ b o, hp.get? b = some o → ((hp.push (PySem.W.kdv_tup [u])).push (PySem.HandSPX.excO C hp.objs.size)).get? b = some o := fun b o z => Heap.get?_push_of_some _ (Heap.get?_push_of_some _ z)
  have hnew : ((hp.push (PySem.W.kdv_tup [u])).push (PySem.HandSPX.excO C hp.objs.size)).get? (hp.objs.size + 1) = some (PySem.HandSPX.excO C hp.objs.size) := by heap_get
  have bk := fun b o z => old b o (I1.bk b o z)
  have cl := PySem.HandSPX.call_own (prog := X.prog) (w := X.w) (A := X.A) (R := wants (MkP X pins σ Q) X.xe) (rest := [u]) F.excBase_ValueError (fun Y => PySem.HandSPX.refsVE_contains Y bm hbm) (I1.kIn _ _ hC) (PySem.W.looks_findIn I1.kIn T.ini) (fun self => PySem.W.bind_fn I1.kIn self T.typ) (by show 1 ≤ sizeLine; rw [sizeLine_eq]; omega) (g := g) (d := dr) (t := tk) (os := os)
  have nk : ∀ b o, X.base.get? b = some o → b ≠ hp.objs.size + 1 := fun b o z => Nat.ne_of_lt (Nat.lt_succ_of_lt (Heap.lt_size (I1.bk b o z)))
  refine wpAny_call (cl (sup_run (mb := mb) (I1.ok.mod.kin.keeps bk) (I1.ok.mod.nolimit.keeps bk) (I1.ok.mod.glob.keeps bk) (hmb.keeps bk) hbb (hr.make C [u] []).depth T hnew (fun b o z => nk b o (I1.ok.mod.kin b o z)) fun h2 t2 dx tt kp lt he2 hns => ?_))
  obtain ⟨G, g1, g2⟩ := restrict h2 fun b => decide (b ≠ hp.objs.size + 1)
  have gk : ∀ b, b ≠ hp.objs.size + 1 → G.get? b = h2.get? b := fun b hb => g1 b (decide_eq_true hb)
  have ge : G.get? (hp.objs.size + 1) = none := g2 _ (by simp)
  have dne : dx ≠ hp.objs.size + 1 := Nat.ne_of_gt lt
  have dge : hp.objs.size ≤ dx := by
    have z : hp.objs.size + 1 < dx := lt
    omega
  have kG : ∀ b o, hp.get? b = some o → G.get? b = some o := fun b o z => by
    have nb : b ≠ hp.objs.size + 1 := Nat.ne_of_lt (Nat.lt_succ_of_lt (Heap.lt_size z))
    rw [gk b nb]
    exact kp b o nb (old b o z)
  have hn1 : H1 dx = none := I1.hok.fresh dge
  have J := I1.laid (t' := t2) (a := dx) (o := .xd [(fn, v)]) kG dge ⟨_, hns.at fun o z => (gk dx dne).trans z, relO_put (fs := []) ru fun _ => True.intro⟩
  have na : upd H1 dx (.xd [(fn, v)]) (hp.objs.size + 1) = none := by
    rw [upd_ne (Ne.symm dne)]
    exact I1.hok.fresh (Nat.le_succ _)
  have kh : ∀ b o, G.get? b = some o → h2.get? b = some o := fun b o z => by
    by_cases hb : b = hp.objs.size + 1
    · rw [hb, ge] at z
      cases z
    · rw [← gk b hb]
      exact z
  exact ⟨rfl, hp.objs.size + 1, _, _, _, _, .ref C, some dx, rfl, J, kh, ge, he2, ⟨rfl, rfl⟩, rfl, rfl, na, rfl, I1.bare, raises_own T.exC T.tyC, hq dx hn1⟩
end
end DL

set_option Elab.async false
set_option linter.all false
set_option maxRecDepth 100000
set_option maxHeartbeats 2000000
/-! DG: defs and their calls, with the guards told. -/
namespace DL
open PySem PySem.Spec PyProof.Rows L2

/-- a def's promise at a call with no guard around -/
structure FnG (P : Program) (w : World) (K : PySem.W.Frag) (mg : Str → Option Value) (base : Heap) (k : Nat) (f : Addr) (fd : FuncData) (n : Nat) (ps : List Str) (sp : Sp) : Prop where
  np : ps.length = n
  len : ∀ vs H Q E, sp vs H Q E → vs.length = n
  run : ∀ (A : Around) (outer : List Env) (s : Shared) (H : Hp) (args : Args) (us : List Value) (vs : List V) (Q : VK) (E : XK), Room k A → A.guards = some [] → Env0 P w K mg base A outer s H → BindsTo s fd args (ps.zip us) → Vals vs us → sp vs H Q E →
    codeAny (model P w) A (.call (.ref f) args) (CR (L2.CX P w) outer P w H s Q E) s
section
variable {P : Program} {w : World} {K : PySem.W.Frag} {mg : Str → Option Value} {base : Heap}
theorem fnG_of {x : Str} {st : Stmt} {f : Addr} {fd : FuncData} {N ps : List Str} {k : Nat} {sp : Sp} (F : Fun K x x st f fd) (Sc : FnScope N ps (defScope st)) (hl : ∀ vs H Q E, sp vs H Q E → vs.length = ps.length)
    (hb : ∀ (cdv : Value) (A : Around) (outer : List Env) (s : Shared) (H : Hp) (vs : List V) (Q : VK) (E : XK), Room k (A.deeper (envOfC x (defScope st) s.heap.objs.size f cdv)) → A.guards = some [] → sp vs H Q E →
      ∃ t, PSs (cxOf (L2.CX P w) P w K mg base N x (defScope st) f cdv A outer s H E) (defBody st) t ∧ t { nx := fun _ H' => Q .non H', rt := Q } (L2.start N vs) H) : FnG P w K mg base (k + 1) f fd ps.length ps sp := by
  obtain ⟨oc, od, kV, doc, pm, an, cdv, ct, osl, e, lk, hc⟩ := F.ex
  subst e
  refine ⟨rfl, hl, fun A outer s H args us vs Q E hr hg e0 bd rv q => ?_⟩
  exact LamX.run_ofS (N := N) lk hc Sc hr e0 bd rv (hl _ _ _ _ q) fun hr2 => hb cdv A outer s H vs Q E hr2 hg q
theorem FnG.mono {j k n : Nat} {f : Addr} {fd : FuncData} {ps : List Str} {sp : Sp} (F : FnG P w K mg base j f fd n ps sp) (h : j ≤ k) : FnG P w K mg base k f fd n ps sp :=
  ⟨F.np, F.len, fun A outer s H args us vs Q E hr => F.run A outer s H args us vs Q E (hr.mono h)⟩
theorem FnG.imp {k n : Nat} {f : Addr} {fd : FuncData} {ps : List Str} {sp sp' : Sp} (F : FnG P w K mg base k f fd n ps sp) (h : ∀ vs H Q E, sp' vs H Q E → sp vs H Q E) : FnG P w K mg base k f fd n ps sp' :=
  ⟨F.np, fun vs H Q E q => F.len vs H Q E (h _ _ _ _ q), fun A outer s H args us vs Q E hr hg e0 bd rv q => F.run A outer s H args us vs Q E hr hg e0 bd rv (h _ _ _ _ q)⟩
end
/-- what a context of ours grants -/
structure CxK (T : List (Addr × Str)) (n : Nat) (X : Cx) (g : Gd) (E : XK) : Prop where
  room : Room n X.A
  tb : g.T = T
  gd : X.A.guards = some []
  tk : Takes X (fun c d _ H => E c d H)
  calm : X.calm = true
theorem CxK.mono {T : List (Addr × Str)} {n m : Nat} {X : Cx} {g : Gd} {E : XK} (c : CxK T n X g E) (h : m ≤ n) : CxK T m X g E := ⟨c.room.mono h, c.tb, c.gd, c.tk, c.calm⟩
theorem CxK.un {T : List (Addr × Str)} {n : Nat} {X : Cx} {g : Gd} {E : XK} (c : CxK T n X g E) : X.A.units + 1 < cLine := hu_of c.room
theorem takesF {X : Cx} {E : XK} (h : ∀ c d H, ¬ E c d H) : Takes X (fun c d _ H => E c d H) := fun _ _ x => by
  obtain ⟨_, _, _, _, _, _, cls, d, _, _, _, _, _, _, _, _, z⟩ := x
  exact (h _ _ _ z).elim
theorem CxK.blk {T : List (Addr × Str)} {n : Nat} {X : Cx} {g : Gd} {E : XK} (c : CxK T n X g E) (s : Shared) (H : Hp) (sc : Scope) (env : Env) (fp : List Addr) : CxK T n (X.blk s H sc env fp) g EF := ⟨c.room, c.tb, c.gd, takesF fun _ _ _ z => z, c.calm⟩
section
variable {X : Cx} {k n : Nat} {f : Addr} {fd : FuncData} {ps : List Str} {sp : Sp} {E : XK}
theorem run_g {T : List (Addr × Str)} {g : Gd} {pins : List (Addr × Obj)} {σ : L2.St} {H : Hp} {s : Shared} {Q : VK} {us zs : List Value} {kw : List (Str × Value)} {vs : List V} (F : FnG X.prog X.w X.K X.mg X.base k f fd n ps sp) (c : CxK T k X g E) (hb : BindsTo s fd ⟨us, kw⟩ (ps.zip zs)) (I : Inv X pins σ H s) (r : Vals vs zs) (h : sp vs H Q E) :
    wpAny (model X.prog X.w) X.A (call (.ref f) us kw) (EP X pins σ Q) X.xe s := by
  refine wpAny_call (codeAny_mono (F.run X.A X.stack s H ⟨us, kw⟩ zs vs Q E c.room c.gd I.env0 hb r h) fun res s2 hq => ?_)
  have px := passes_call c.tk (E := E) fun _ _ _ _ z => z
  cases res with
  | error e => exact px pins σ H s e s2 I hq
  | ok fl =>
    cases fl with
    | ret u => exact I.after hq
    | _ => exact False.elim hq
end
/-- what a def does, told of plain data -/
def spD (K : PySem.W.Frag) (mg : Str → Option Value) (T : List (Addr × Str)) (n : Nat) (F : List D → W D) : Sp := fun vs H Q E => vs.length = n ∧ ∃ g ds S P Z, g.T = T ∧ Frm g S H S H ∧ Reps K mg g S ds vs ∧ F ds P Z ∧
  (∀ d v S' H', P d → Frm g S H S' H' → Rep K mg g S' d v → Q v H') ∧ (∀ x cls dx S' H', Z x → Frm g S H S' H' → RepX K mg g S' cls dx x → E cls dx H')
structure FnD (P : Program) (w : World) (K : PySem.W.Frag) (mg : Str → Option Value) (base : Heap) (T : List (Addr × Str)) (k : Nat) (x : Str) (st : Stmt) (ps : List Str) (F : List D → W D) : Prop where
  ex : ∃ f fd, mg x = some (.ref f) ∧ Fun K x x st f fd ∧ Binds K fd ps [] ∧ FnG P w K mg base k f fd ps.length ps (spD K mg T ps.length F)
/-- a body as a computation upon arguments -/
@[simp] def fnW (nl np : Nat) (m : SM) : List D → W D := fun ds P Z => ds.length = np ∧ m (ds.map Slot.sh ++ List.replicate (nl - np) .un) { nx := fun _ => P .non, rt := P, er := Z }
section
variable {P : Program} {w : World} {K : PySem.W.Frag} {mg : Str → Option Value} {base : Heap} {T : List (Addr × Str)}
theorem ok_start {g : Gd} {S H : Hp} {ds : List D} {vs : List V} {N : List Str} (f : Frm g S H S H) (r : Reps K mg g S ds vs) : Ok K mg g (S, H) (ds.map Slot.sh ++ List.replicate (N.length - ds.length) .un) S (L2.start N vs) H where
  frm := f
  len := by
    unfold L2.start
    rw [List.length_append, List.length_append, List.length_map, List.length_map, List.length_replicate, List.length_replicate, r.len]
  slots := fun i s e => by
    have hl := r.len
    by_cases hi : i < ds.length
    · rw [List.getElem?_append_left (by simpa using hi), List.getElem?_map] at e
      have e0 : ds[i]? = some ds[i] := List.getElem?_eq_getElem hi
      rw [e0] at e
      have e' : Slot.sh ds[i] = s := by simpa using e
      subst e'
      obtain ⟨v, hv, rv⟩ := r.got e0
      refine ⟨v, ?_, rv⟩
      unfold L2.start
      rw [List.getElem?_append_left (by rw [List.length_map]; omega), List.getElem?_map, hv]
      rfl
    · rw [List.getElem?_append_right (by simpa using hi), List.getElem?_replicate] at e
      split at e
      · have e' := Option.some.inj e
        subst e'
        trivial
      · cases e
  apart := fun i j l m a e _ ol _ _ _ => by
    by_cases hi : i < ds.length
    · rw [List.getElem?_append_left (by simpa using hi), List.getElem?_map, List.getElem?_eq_getElem hi] at e
      have e' : Slot.sh ds[i] = l := by simpa using e
      subst e'
      cases ol
    · rw [List.getElem?_append_right (by simpa using hi), List.getElem?_replicate] at e
      split at e
      · have e' := Option.some.inj e
        subst e'
        cases ol
      · cases e
/-- the context of a def's body -/
theorem cxk_of {N : List Str} {x : Str} {sc : Scope} {f : Addr} {cdv : Value} {A : Around} {outer : List Env} {s : Shared} {H : Hp} {E : XK} {k : Nat} (hr : Room k (A.deeper (envOfC x sc s.heap.objs.size f cdv))) {g : Gd} (ht : g.T = T) (hg : A.guards = some []) :
    CxK T k (cxOf (L2.CX P w) P w K mg base N x sc f cdv A outer s H E) g E := ⟨hr, ht, hg, takes_of rfl rfl rfl rfl, rfl⟩
theorem fnD_of {x : Str} {st : Stmt} {f : Addr} {fd : FuncData} {N ps : List Str} {k : Nat} {m : SM} (F : Fun K x x st f fd) (Sc : FnScope N ps (defScope st)) (hm : mg x = some (.ref f)) (hb : Binds K fd ps [])
    (hbody : ∀ (cdv : Value) (A : Around) (outer : List Env) (s : Shared) (H : Hp) (E : XK) (g : Gd) (B : Hp × Hp), CxK T k (cxOf (L2.CX P w) P w K mg base N x (defScope st) f cdv A outer s H E) g E →
      DSs (cxOf (L2.CX P w) P w K mg base N x (defScope st) f cdv A outer s H E) g B E (defBody st) m) : FnD P w K mg base T (k + 1) x st ps (fnW N.length ps.length m) := by
  refine ⟨f, fd, hm, F, hb, fnG_of F Sc (fun vs H Q E h => h.1) fun cdv A outer s H vs Q E hr hg h => ?_⟩
  obtain ⟨hl, g, ds, S, P', Z, ht, fr, r, hf, kq, kx⟩ := h
  obtain ⟨hd, hf⟩ := hf
  refine ⟨_, hbody cdv A outer s H E g (S, H) (cxk_of hr ht hg), ?_⟩
  have o := ok_start (N := N) fr r
  rw [hd] at o
  refine ⟨_, S, _, o, hf, fun env S' σ H' q ok' ex => ?_, fun d v S' H' q f' r' => kq d v S' H' q f' r', fun _ _ _ _ z => z.elim, fun _ _ _ _ z => z.elim, fun x cls dx S' H' q f' r' => kx x cls dx S' H' q f' r'⟩
  exact kq .non .non S' H' q ok'.frm (by unfold Rep; rfl)
/-- a weaker promise, or an equal one -/
theorem FnD.imp {k : Nat} {x : Str} {st : Stmt} {ps : List Str} {F G : List D → W D} (h : FnD P w K mg base T k x st ps F) (i : ∀ ds P Z, G ds P Z → F ds P Z) : FnD P w K mg base T k x st ps G := by
  obtain ⟨f, fd, h1, h2, h3, h5⟩ := h.ex
  refine ⟨f, fd, h1, h2, h3, h5.imp fun vs H Q E h => ?_⟩
  obtain ⟨hl, g, ds, S, P', Z, ht, fr, r, hf, kq, kx⟩ := h
  exact ⟨hl, g, ds, S, P', Z, ht, fr, r, i _ _ _ hf, kq, kx⟩
theorem FnD.mono {j k : Nat} {x : Str} {st : Stmt} {ps : List Str} {F : List D → W D} (h : FnD P w K mg base T j x st ps F) (i : j ≤ k) : FnD P w K mg base T k x st ps F := by
  obtain ⟨f, fd, h1, h2, h3, h5⟩ := h.ex
  exact ⟨f, fd, h1, h2, h3, h5.mono i⟩
end
section
variable {X : Cx} {g : Gd} {B : Hp × Hp} {E : XK} {T : List (Addr × Str)} {k n : Nat} {x : Str} {st : Stmt} {ps : List Str} {F : List D → W D} {a : Expr} {es : List Expr} {kws : List Keyword} {p pos : Pos} {ml mk : Ev → W (List D)}
/-- the arguments stand, the def is entered -/
theorem call_sp {σ : L2.St} {H : Hp} {Q : VK} {env : Ev} {S : Hp} {P Z : D → Prop} {ds : List D} {vs : List V} (ht : g.T = T) (ok : Ok X.K X.mg g B env S σ H) (r : Reps X.K X.mg g S ds vs) (q : F ds P Z) (hl : ds.length = ps.length)
    (kq : ∀ d v S' H', P d → Ok X.K X.mg g B env S' σ H' → Ex S S' → Rep X.K X.mg g S' d v → Q v H') (kx : ∀ x cls dx S' H', Z x → Frm g B.1 B.2 S' H' → RepX X.K X.mg g S' cls dx x → E cls dx H') : spD X.K X.mg T ps.length F vs H Q E :=
  ⟨by rw [← r.len]; exact hl, g, ds, S, P, Z, ht, ok.frm.rf, r, q, fun d v S2 H2 q2 f2 r2 => kq d v S2 H2 q2 (ok.call f2) f2.ss r2, fun x cls dx S2 H2 q2 f2 r2 => kx x cls dx S2 H2 q2 (ok.frm.tr f2) r2⟩
@[simp] def eF (n : Nat) (F : List D → W D) (ml : Ev → W (List D)) : EM := fun env P Z => ml env (fun ds => ds.length = n ∧ F ds P Z) Z
/-- f(e, ..) -/
theorem de_call (f : FnD X.prog X.w X.K X.mg X.base T k x st ps F) (c : CxK T n X g E) (hk : k ≤ n) (hg : Gl X x) (ha : DAr X g B E (a :: es) ml) (hdb : (x == ("__debug__" : Str)) = false := by decide)
    (hst : noStar (a :: es) = true := by rfl) {np : Nat} (hnp : ps.length = np := by rfl) : DE X g B E (.Call (.Name x p) (a :: es) [] pos) (eF np F ml) := by
  subst hnp
  obtain ⟨fa, fd, h1, h2, h3, h5⟩ := f.ex
  refine ⟨fun pins s σ H Q I h => ?_⟩
  obtain ⟨env, S, P, Z, ok, hm, kq, kx⟩ := h
  refine wpAny_Call_Name_kw (ld_glob I hg h1 ?_ hdb)
  refine PySem.W.callWith_K (h₀ := X.base) I.ok.mod.kin h2.kp (thn (ha.run pos pins s σ H (fun vs H1 => spD X.K X.mg T ps.length F vs H1 Q E) I ⟨env, S, _, Z, ok, hm, fun ds vs S1 H1 q ok1 ex r => ?_, kx⟩) fun us s1 hh => ?_) (st_cons hst) (st_any hst)
  · exact call_sp c.tb ok1 r q.2 q.1 (fun d v S2 H2 q2 ok2 ex2 r2 => kq d v S2 H2 q2 ok2 (ex.tr ex2) r2) kx
  · obtain ⟨vs, H1, I1, r, q⟩ := hh
    have bd := h3 s1 us I1.kIn (by rw [List.append_nil, ← r.length]; exact q.1)
    rw [List.append_nil] at bd
    exact ⟨I1.kIn, run_g h5 (c.mono hk) bd I1 r q⟩
/-- f() -/
theorem de_call0 (f : FnD X.prog X.w X.K X.mg X.base T k x st [] F) (c : CxK T n X g E) (hk : k ≤ n) (hg : Gl X x) (hdb : (x == ("__debug__" : Str)) = false := by decide) : DE X g B E (.Call (.Name x p) [] [] pos) (eF 0 F aNil) := by
  obtain ⟨fa, fd, h1, h2, h3, h5⟩ := f.ex
  refine ⟨fun pins s σ H Q I h => ?_⟩
  obtain ⟨env, S, P, Z, ok, hm, kq, kx⟩ := h
  refine wpAny_Call_Name_kw (ld_glob I hg h1 ?_ hdb)
  have bd := h3 s [] I.kIn rfl
  exact PySem.W.callWith_K0 I.kIn h2.kp (run_g (us := []) h5 (c.mono hk) bd I .nil (call_sp c.tb ok Reps.nil hm.2 rfl kq kx))
/-- keywords' values -/
def DK (X : Cx) (g : Gd) (B : Hp × Hp) (E : XK) (kws : List Keyword) (m : Ev → W (List D)) : Prop := PK X kws (cloA X g B E m)
theorem pk_imp {X : Cx} {kws : List Keyword} {t u : TA} (h : PK X kws t) (i : ∀ σ H Q, u σ H Q → t σ H Q) : PK X kws u := ⟨fun p pins s σ H Q I q => h.run p pins s σ H Q I (i σ H Q q)⟩
theorem dk_nil : DK X g B E [] aNil := pk_imp pk_nil fun σ H Q h => by
  obtain ⟨env, S, P, Z, ok, hm, k, kx⟩ := h
  exact k [] [] S H hm ok (Ex.rf _) Reps.nil
theorem dk_cons {nm : Option Str} {kp : Pos} {ma : EM} (ha : DE X g B E a ma) (hr : DK X g B E kws mk) : DK X g B E (⟨nm, a, kp⟩ :: kws) (aCons ma mk) := by
  refine pk_imp (pk_cons ha hr) fun σ H Q h => ?_
  obtain ⟨env, S, P, Z, ok, hm, k, kx⟩ := h
  refine ⟨env, S, _, Z, ok, hm, fun d v S' H' p ok' ex r => ?_, kx⟩
  exact ⟨env, S', _, Z, ok', p, fun ds vs S2 H2 p2 ok2 ex2 r2 => k _ _ S2 H2 p2 ok2 (ex.tr ex2) (Reps.cons (r.mono ex2) r2), kx⟩
theorem vals_at : ∀ {vs : List V} {us : List Value}, Vals vs us → ∀ j, j < vs.length → L2.RelV (vs.getD j .non) (us.getD j .none)
  | [], _, _, j, h => absurd h (by simp)
  | v :: vs, _, .cons r rs, 0, _ => r
  | v :: vs, _, .cons r rs, j + 1, h => vals_at rs j (by simpa using h)
/-- f(k = e, ..): pm puts the values in the parameters' order -/
theorem de_callK0 {ks : List Str} {js : List Nat} (f : FnD X.prog X.w X.K X.mg X.base T k x st ps F) (c : CxK T n X g E) (hk : k ≤ n) (hg : Gl X x) (ha : DK X g B E kws mk)
    (hb : ∀ (kV doc pm : Value) (an : Option Addr) (cdv ct : Value) (ws : List Value), ws.length = js.length → bindArgs (PySem.W.fnOf x x (defArgs st) (defBody st) (defScope st) .none kV doc pm an cdv ct) ⟨[], ks.zip ws⟩ = pure (ps.zip (js.map fun j => ws.getD j .none)))
    (hjl : js.length = ps.length := by rfl) (hjs : ∀ j ∈ js, j < js.length := by decide)
    (hall : (backToKw pos (keywordEach kws X.env)).all (·.1.isSome) = true := by rfl) (hks : (backToKw pos (keywordEach kws X.env)).filterMap (·.1) = ks := by rfl) (hdb : (x == ("__debug__" : Str)) = false := by decide)
    (hpl : ((backTo pos (starEach [] X.env)).any (·.1) || (backToKw pos (keywordEach kws X.env)).any (·.1.isNone)) = false := by rfl) :
    {np : Nat} → (hnp : ps.length = np := by rfl) → DE X g B E (.Call (.Name x p) [] kws pos) (eF np (fun ds => F (js.map fun j => ds.getD j .non)) mk) := by
  intro np hnp
  subst hnp
  obtain ⟨fa, fd, h1, h2, h3, h5⟩ := f.ex
  refine ⟨fun pins s σ H Q I h => ?_⟩
  obtain ⟨env, S, P, Z, ok, hm, kq, kx⟩ := h
  refine wpAny_Call_Name_kw (ld_glob I hg h1 ?_ hdb)
  refine PySem.W.callWith_KW0 (h₀ := X.base) I.ok.mod.kin h2.kp hall (thn (ha.run pos pins s σ H (fun vs H1 => vs.length = js.length ∧ spD X.K X.mg T ps.length F (js.map fun j => vs.getD j .non) H1 Q E) I ⟨env, S, _, Z, ok, hm, fun ds vs S1 H1 q ok1 ex r => ?_, kx⟩) fun us s1 hh => ?_) hpl
  · have hl : ds.length = js.length := by rw [q.1, hjl]
    refine ⟨by rw [← r.len]; exact hl, call_sp c.tb ok1 ?_ q.2 (by rw [List.length_map]; exact hjl) (fun d v S2 H2 q2 ok2 ex2 r2 => kq d v S2 H2 q2 ok2 (ex.tr ex2) r2) kx⟩
    have hz : ∀ l : List Nat, (∀ j ∈ l, j < js.length) → Reps X.K X.mg g S1 (l.map fun j => ds.getD j .non) (l.map fun j => vs.getD j .non) := by
      intro l
      induction l with
      | nil => exact fun _ => Reps.nil
      | cons j l ih =>
        intro hj
        have hd : ds[j]? = some (ds.getD j .non) := by
          rw [List.getD_eq_getElem?_getD]
          cases e : ds[j]? with
          | none =>
            have := List.getElem?_eq_none_iff.mp e
            have := hj j List.mem_cons_self
            omega
          | some d => rfl
        obtain ⟨v, hv, rv⟩ := r.got hd
        have hv2 : vs.getD j .non = v := by rw [List.getD_eq_getElem?_getD, hv]; rfl
        rw [List.map_cons, List.map_cons, hv2]
        exact Reps.cons rv (ih fun i hi => hj i (List.mem_cons_of_mem _ hi))
    exact hz js hjs
  · obtain ⟨vs, H1, I1, r, hl, q⟩ := hh
    rw [hks]
    refine ⟨I1.kIn, ?_⟩
    obtain ⟨oc, od, kV, doc, pm, an, cdv, ct, osl, e, lk, hc⟩ := h2.ex
    subst e
    have hul : us.length = js.length := by rw [← r.length]; exact hl
    have rz : ∀ l : List Nat, (∀ j ∈ l, j < js.length) → Vals (l.map fun j => vs.getD j .non) (l.map fun j => us.getD j .none) := by
      intro l
      induction l with
      | nil => exact fun _ => .nil
      | cons j l ih =>
        intro hj
        refine .cons ?_ (ih fun i hi => hj i (List.mem_cons_of_mem _ hi))
        exact vals_at r j (by rw [hl]; exact hj j List.mem_cons_self)
    exact run_g h5 (c.mono hk) (BindsTo.of_eq (hb kV doc pm an cdv ct us hul)) I1 (rz js hjs) q
/-- x(e, ..) where the i-th slot holds a def of the module -/
@[simp] def eL (i : Nat) (Fm : Str → Option (Nat × (List D → W D))) (ml : Ev → W (List D)) : EM := fun env P Z => match env[i]? with
  | some (.sh (.fn y)) => match Fm y with
    | some nF => ml env (fun ds => ds.length = nF.1 ∧ nF.2 ds P Z) Z
    | none => False
  | _ => False
theorem de_callL {i : Nat} {Fm : Str → Option (Nat × (List D → W D))} (f : ∀ y nF, Fm y = some nF → ∃ k st ps, k ≤ n ∧ ps.length = nF.1 ∧ FnD X.prog X.w X.K X.mg X.base T k y st ps nF.2) (c : CxK T n X g E) (ha : DAr X g B E (a :: es) ml)
    (hN : X.N[i]? = some x := by rfl) (hv : Vis X.env.scope x := by first | exact Or.inl rfl | exact Or.inr (Or.inl rfl) | exact Or.inr (Or.inr rfl)) (hdb : (x == ("__debug__" : Str)) = false := by decide)
    (hcd : (x == ("__classdict__" : Str)) = false := by decide) (hst : noStar (a :: es) = true := by rfl) : DE X g B E (.Call (.Name x p) (a :: es) [] pos) (eL i Fm ml) := by
  refine ⟨fun pins s σ H Q I h => ?_⟩
  obtain ⟨env, S, P, Z, ok, hm, kq, kx⟩ := h
  unfold eL at hm
  split at hm
  · rename_i y es'
    split at hm
    · rename_i nF ef
      obtain ⟨k, st, ps, hk, hp, F⟩ := f y nF ef
      obtain ⟨fa, fd, h1, h2, h3, h5⟩ := F.ex
      obtain ⟨v, hs, rv⟩ := ok.slots i _ es'
      unfold Rep at rv
      obtain ⟨fb, rfl, hm2⟩ := rv
      rw [h1] at hm2
      cases hm2
      refine wpAny_Call_Name_kw (thn ((pe_var (pos := p) hN hv hdb hcd).run pins s σ H (fun v H1 => v = .ref fa ∧ H1 = H) I ⟨.ref fa, hs, rfl, rfl⟩) fun u s0 ⟨v, H0, I0, r0, q0⟩ => ?_)
      obtain ⟨rfl, rfl⟩ := q0
      cases r0
      refine PySem.W.callWith_K (h₀ := X.base) I0.ok.mod.kin h2.kp (thn (ha.run pos pins s0 σ _ (fun vs H1 => spD X.K X.mg T ps.length nF.2 vs H1 Q E) I0 ⟨env, S, _, Z, ok, hm, fun ds vs S1 H1 q ok1 ex r => ?_, kx⟩) fun us s1 hh => ?_) (st_cons hst) (st_any hst)
      · exact call_sp c.tb ok1 r q.2 (q.1.trans hp.symm) (fun d v S2 H2 q2 ok2 ex2 r2 => kq d v S2 H2 q2 ok2 (ex.tr ex2) r2) kx
      · obtain ⟨vs, H1, I1, r, q⟩ := hh
        have bd := h3 s1 us I1.kIn (by rw [List.append_nil, ← r.length]; exact q.1)
        rw [List.append_nil] at bd
        exact ⟨I1.kIn, run_g h5 (c.mono hk) bd I1 r q⟩
    · exact hm.elim
  · exact hm.elim
end
end DL

set_option Elab.async false
set_option linter.all false
set_option maxRecDepth 100000
set_option maxHeartbeats 2000000
/-! DX: raise; try .. except X as n, the exception kept as a value. -/
namespace DL
open PySem PySem.Spec PyProof.Rows L2

section
variable {X : Cx} {g : Gd} {B : Hp × Hp} {E : XK} {n k : Nat} {x y fn : Str} {C fI : Addr} {a : Expr} {ma : EM} {p p2 pos pos' : Pos}
@[simp] def sRz (x fn : Str) (ma : EM) : SM := fun env k => ma env (fun d => k.er (.exc x [fn] [d])) k.er
/-- raise x(e): x has the one field -/
theorem ds_rz {T : List (Addr × Str)} (c : CxK T (n + 1) X g E) (T : SupC X.prog X.K X.mg C fI y fn) (hm : X.mg x = some (.ref C)) (hg : Gl X x) (ha : DE X g B E a ma) (hdb : (x == ("__debug__" : Str)) = false := by decide)
    (he : starEach [a] X.env = (false, eval a X.env) :: starEach [] X.env := by rfl) (hpl : (backTo pos (starEach [] X.env)).any (·.1) = false := by rfl) : DS X g B E (.Raise (some (.Call (.Name x p) [a] [] pos)) none pos') (sRz x fn ma) := by
  refine ps_imp (ps_raise c.calm c.tk (pmk_sup T c.room hg hm ha hdb he hpl)) fun De σ H h => ?_
  obtain ⟨env, S, k, ok, hq, kk⟩ := h
  refine ⟨env, S, _, k.er, ok, hq, fun d v S1 H1 q ok1 ex r dx hd => ?_, kk.er⟩
  have nw := New.add (o := .xd [(fn, v)]) ok1.frm.le hd (fun ps z => by cases z)
  refine kk.er _ _ _ (upd S1 dx (.xd [(fn, v)])) _ q (ok1.frm.new nw) ⟨C, [v], hm, rfl, Reps.cons (r.mono nw.ss) Reps.nil, rfl, fun d2 z => ?_, fun z => by cases z⟩
  cases z
  exact upd_same
@[simp] def sR0 (x : Str) : SM := fun _ k => k.er (.exc x [] [])
/-- raise x(text): x has no __init__ of its own -/
theorem ds_r0 {m : Str} {j : Nat} {bmB : List Value} {T : List (Addr × Str)} (c : CxK T n X g E) (q : PySem.W.excIn X.K C bmB "ValueError.__new__" = true) (Fb : ExcBaseFacts "ValueError" "ValueError.__new__" "ValueError.__init__" bmB) (hm : X.mg x = some (.ref C)) (kC : PySem.W.keepIn X.K (.ref C) = true)
    (h1 : PySem.W.subIn X.K (.ref C) (.type "BaseException") = some true) (h2 : PySem.W.typeIn X.K (.ref C) = some (.type "type")) (hg : Gl X x) (hdb : (x == ("__debug__" : Str)) = false := by decide) :
    DS X g B E (.Raise (some (.Call (.Name x p) [.Constant (.str m) j p2] [] pos)) none pos') (sR0 x) := by
  refine ps_imp (ps_raise c.calm c.tk (pmk_own Fb q hm kC (raises_own h1 h2) hg hdb)) fun De σ H h => ?_
  obtain ⟨env, S, k, ok, hq, kk⟩ := h
  exact kk.er _ _ _ S _ hq ok.frm ⟨C, [], hm, rfl, Reps.nil, rfl, (fun d2 z => by cases z), fun _ => rfl⟩
end

/-! ### an object that stands is told of from now on -/
theorem told {X : Cx} {pins : List (Addr × Obj)} {σ : L2.St} {H : Hp} {s : Shared} {a : Addr} {o : HO} (I : Inv X pins σ H s) (n0 : X.s_0.heap.get? a = none) (nL : a ≠ X.env.locals) (nC : ∀ x c, X.env.cells.lookup x = some c → c ≠ a) (nP : ∀ p ∈ X.pn ++ pins, p.1 ≠ a)
    (hn : H a = none) (new : ObjOk X.prog X.w (upd H a o) s.heap a o) : Inv X pins σ (upd H a o) s where
  ok := I.ok
  os := I.os
  bare := I.bare
  base := {
    keep := I.base.keep
    slot := I.base.slot
    free := fun b u e m q => by
      rw [upd_ne (fun z => by rw [z, n0] at e; cases e)]
      exact I.base.free b u e m q
    there := I.base.there
    tups := fun b xs e => by
      have z := I.base.tups b xs e
      rw [upd_ne (ne_of_none z hn)]
      exact z
    frzs := fun b u xs e => by
      have z := I.base.frzs b u xs e
      rw [upd_ne (ne_of_none z hn)]
      exact z
    tbls := fun b ps e => by
      obtain ⟨m, z⟩ := I.base.tbls b ps e
      refine ⟨m, ?_⟩
      rw [upd_ne (ne_of_none z hn)]
      exact z }
  loc := I.loc
  cell := I.cell
  free := by
    rw [upd_ne (Ne.symm nL)]
    exact I.free
  freeC := fun x c e => by
    rw [upd_ne (nC x c e)]
    exact I.freeC x c e
  pin := fun p hp => by
    obtain ⟨h1, h2, h3⟩ := I.pin p hp
    refine ⟨h1, ?_, h3⟩
    rw [upd_ne (nP p hp)]
    exact h2
  hok := fun b u e => by
    by_cases hb : b = a
    · rw [hb, upd_same] at e
      rw [hb, ← Option.some.inj e]
      exact new
    · rw [upd_ne hb] at e
      refine (I.hok b u e).stay (fun c v _ z => z) (fun c z => ?_) fun c xs z => ?_
      · rw [upd_ne (ne_of_none z hn)]
        exact z
      · rw [upd_ne (ne_of_none z hn)]
        exact z
  len := I.len

/-! ### try: body, except x as n: suite; the exception stays -/
/-- all ends behind it with the exception told of, its name gone -/
def Ends.kept (D : Ends) (i : Nat) (a : Addr) (o : HO) : Ends := { nx := fun σ H => D.nx (σ.set i none) (upd H a o), rt := fun v H => D.rt v (upd H a o), bk := fun σ H => D.bk (σ.set i none) (upd H a o), ct := fun σ H => D.ct (σ.set i none) (upd H a o) }
def wKp (K : PySem.W.Frag) (c : Value) (i : Nat) (ts : Addr → TS) (D : Ends) : WX := fun cls d σ H => PySem.W.exmOne K cls c = some true ∧ ∀ a, H a = none → ts a (Ends.kept D i a (exV cls d a)) (σ.set i (some (.ref a))) H
section
variable {X : Cx} {x n : Str} {c : Value} {i : Nat} {body suite : List Stmt} {np pos pos' : Pos} {tb : WX → TS} {ts : Addr → TS}
theorem ps_kept (hs : X.stack = X.env :: X.outer) (hf : X.env.frame = some X.env.locals) (hN : X.N.Nodup) (hi : X.N[i]? = some n) (hln : X.env.kindOf n = some .local) (hc : Names X x c) (hex : X.ex = [])
    (hb : ∀ (W : WX) (pn : List (Addr × Obj)) (xe : Value → Shared → Prop), Takes (X.tr pn xe) W → PassesOwn (model X.prog X.w) X.A X.env xe → PSs (X.tr pn xe) body (tb W))
    (hsu : ∀ (a : Addr) (oe : Obj) (pn : List (Addr × Obj)), PSs (X.suite a ((a, oe) :: pn)) suite (ts a)) (hne : suite ≠ []) :
    PS X (.Try body [.ExceptHandler (some (.Name x np)) (some n) suite pos'] [] [] pos) (fun D σ H => tb (wKp X.K c i ts D) D σ H) := by
  obtain ⟨b₀, suite', rfl⟩ : ∃ b r, suite = b :: r := by
    cases suite with
    | nil => exact absurd rfl hne
    | cons b r => exact ⟨b, r, rfl⟩
  refine ⟨fun pins s σ H D I h => ?_⟩
  have hfs : X.A.frames = some (X.env :: X.outer) := by
    rw [I.ok.frames, hs]
  refine wpAny_Try_except (wpAny_mono ((hb (wKp X.K c i ts D) (X.pn ++ pins) _ (fun u s1 z => ?_) PassesOwn.looking).run [] s σ H D (I.toTry _) h) (fun f s1 z => ?_) fun e s1 z => z)
  · obtain ⟨a, Bg, sI, pins1, σ1, H1, cls, d, rfl, J1, nb, up, sky, na, os, ag, hx, hyes⟩ := z
    have J := J1.ofTry I.ok
    have sky1 : Sky Bg (X.env :: X.outer) a (Zc cls d) X.env.locals s1.heap := by
      rw [← hs]
      exact sky
    show wpAny (model X.prog X.w) X.A (noteFrame (.ref a) X.env) _ _ _
    refine Sky.land Zc.steady hfs hf sky1 fun h3 fly3 up3 => ?_
    have J3 : Inv X pins σ1 H1 { s1 with heap := h3 } := J.landed nb fly3.1 (up.trans up3) os ag
    obtain ⟨oe3, vs3, he3, hz3, hd3⟩ := fly3.there
    have nfr : a ∉ frs (X.env :: X.outer) := fun hm => by
      obtain ⟨_, o, e, hnf⟩ := fly3.2.2.1.mem hm
      rw [he3] at e
      cases e
      exact hnf _ hd3
    have nL : a ≠ X.env.locals := fun z => nfr (List.mem_filterMap.mpr ⟨X.env, List.mem_cons_self, by rw [hf, z]⟩)
    have nF : a ∉ X.fs := fun hm => by
      obtain ⟨e, he, q⟩ := List.mem_filterMap.mp hm
      exact nfr (List.mem_filterMap.mpr ⟨e, List.mem_cons_of_mem _ he, q⟩)
    -- it is new
    have nI : sI.heap.get? a = none := by
      cases e : sI.heap.get? a with
      | none => rfl
      | some o =>
        have z := nb a o e (by
          show a ∉ frs X.stack
          rw [hs]
          exact nfr)
        rw [fly3.2.1] at z
        cases z
    have n0 : X.s_0.heap.get? a = none := by
      cases e : X.s_0.heap.get? a with
      | none => rfl
      | some o =>
        obtain ⟨o', z⟩ := J.base.there a o e (by rw [hex]; exact fun z => nomatch z)
        rw [nI] at z
        cases z
    have nP : ∀ q ∈ X.pn ++ pins, q.1 ≠ a := fun q hq z => by
      have y := (J.pin q hq).1
      rw [z, nI] at y
      cases y
    have nC : ∀ y c, X.env.cells.lookup y = some c → c ≠ a := fun y c e z => by
      obtain ⟨v, o, y1, y2⟩ := J.cell y c e
      rw [z, nI] at y1
      cases y1
    have S3 := J3.suite he3 hd3 na nL nF
    refine wpAny_handleBy_cons (codeAny_handlers_test ?_) (by intro q; cases q)
    have LT : PySem.W.Looks (model X.prog X.w) h3 (typeOf (.ref a)) cls := fun A' Q' E' s' k' q' => wpAny_typeOf_ref (k' _ _ he3) (by rw [hz3.1]; exact q')
    have LM := PySem.W.exm_one (M := model X.prog X.w) (J3.kIn) LT hx
    have test : ∀ {Q' : Value → Shared → Prop} {E' : Value → Shared → Prop}, Q' c { s1 with heap := h3 } → wpAny (model X.prog X.w) (X.A.mark (some (.ref a))) (eval (.Name x np) X.env) Q' E' { s1 with heap := h3 } := fun {Q' E'} q => by
      obtain ⟨hg, hdb, hm | ⟨hm, hv, hnn⟩⟩ := hc
      · exact ld_glob (X := X.suite a ((a, oe3) :: (X.pn ++ pins))) S3 hg hm q hdb
      · exact ld_blt (X := X.suite a ((a, oe3) :: (X.pn ++ pins))) S3 hg hm hv q hnn hdb
    refine test (LM.here ?_)
    refine codeAny_handlers_suite_as (HandSPX.lands_againZ fly3 fun h4 fly4 up4 => ?_)
    have J4 : Inv X pins σ1 H1 { s1 with heap := h4 } := J.landed nb fly4.1 ((up.trans up3).trans up4) os ag
    obtain ⟨oe4, vs4, he4, hz4, hd4⟩ := fly4.there
    have S4 := J4.suite he4 hd4 na nL nF
    refine store_ok (X := X.suite a ((a, oe4) :: (X.pn ++ pins))) (v := .ref a) S4 hN hi (.inl hln) rfl (fun s5 S5 => ?_) (.inr hln)
    refine wpAny_mono ((hsu a oe4 (X.pn ++ pins)).run [] s5 _ H1 _ S5 (hyes a na)) (fun f s6 z => ?_) (fun _ _ z => False.elim z)
    have fin : ∀ {σ6 : L2.St} {H6 : Hp} {Q' : Shared → Prop}, Inv (X.suite a ((a, oe4) :: (X.pn ++ pins))) [] σ6 H6 s6 → (∀ s7, Inv X pins (σ6.set i none) (upd H6 a (exV cls d a)) s7 → Q' s7) →
        wpAny (model X.prog X.w) X.A (do bindName X.env n .none; unbindBehindTheSuite X.env n pos') (fun _ s7 => Q' s7) X.xe s6 := fun {σ6 H6 Q'} S6 hq => by
      obtain ⟨p1, p2, _⟩ := S6.pin (a, oe4) (by rw [List.append_nil]; exact List.mem_cons_self)
      exact gone_ok (told (o := exV cls d a) (S6.unsuite I.ok) n0 nL nC nP p2 ⟨⟨oe4, vs4, p1, hz4, hd4⟩, ⟨_, p1⟩, fun _ _ ⟨o1, v1, y1, y2⟩ k' => ⟨o1, v1, k' _ y1, y2⟩⟩) hN hi hln hq
    cases f with
    | next =>
      obtain ⟨σ6, H6, S6, q6⟩ := z
      exact fin S6 fun s7 J7 => ⟨_, _, J7, q6⟩
    | brk =>
      obtain ⟨σ6, H6, S6, q6⟩ := z
      exact fin S6 fun s7 J7 => ⟨_, _, J7, q6⟩
    | cont =>
      obtain ⟨σ6, H6, S6, q6⟩ := z
      exact fin S6 fun s7 J7 => ⟨_, _, J7, q6⟩
    | ret u =>
      obtain ⟨v6, σ6, H6, S6, r6, q6⟩ := z
      exact fin S6 fun s7 J7 => ⟨_, _, _, J7, r6, q6⟩
  · cases f with
    | next =>
      obtain ⟨σ1, H1, J, q⟩ := z
      exact wpAny_execs_nil ⟨σ1, H1, J.ofTry I.ok, q⟩
    | brk =>
      obtain ⟨σ1, H1, J, q⟩ := z
      exact ⟨σ1, H1, J.ofTry I.ok, q⟩
    | cont =>
      obtain ⟨σ1, H1, J, q⟩ := z
      exact ⟨σ1, H1, J.ofTry I.ok, q⟩
    | ret u =>
      obtain ⟨v, σ1, H1, J, r, q⟩ := z
      exact ⟨v, σ1, H1, J.ofTry I.ok, r, q⟩
end
end DL

set_option Elab.async false
set_option linter.all false
set_option maxRecDepth 100000
set_option maxHeartbeats 2000000
/-! DY: a lambda handed to the def that keeps what is raised. -/
namespace DL
open PySem PySem.Spec PyProof.Rows L2 LamX

section
variable {X : Cx} {pins : List (Addr × Obj)} {σ : L2.St} {H : Hp} {s : Shared}
/-- the slot's lambda called, within the def that was handed it -/
theorem lam_act {Eg E : XK} {Ng : List Str} {qg : Str} {sg : Scope} {gA f c' : Addr} {cdg pm ctv : Value} {params : Arguments} {body : Expr} {scope : Scope} {k i : Nat} {a : Str} {pn : List (Addr × Obj)} {xe : Value → Shared → Prop} {W : WX} {tb : TE} {p1 p2 : Pos}
    (hgd : X.A.guards = some []) (hr : Room (k + 1) (X.A.deeper (envOfC qg sg s.heap.objs.size gA cdg))) (I : Inv X pins σ H s) (L : LamS X.env.scope scope) (hfn : H f = none) (hfr : f ∉ frs X.stack)
    (hf : s.heap.get? f = some (PySem.W.kla_obj "<lambda>" (X.env.qual ++ "<lambda>") params body scope (cloFrom X.env.cells scope.names []) pm c' ctv))
    (hbd : bindArgs (PySem.W.kla_fn "<lambda>" (X.env.qual ++ "<lambda>") params body scope (cloFrom X.env.cells scope.names []) pm (.ref c') ctv) ⟨[], []⟩ = pure [])
    (tk : Takes ((cxOf (L2.CX X.prog X.w) X.prog X.w X.K X.mg X.base Ng qg sg gA cdg X.A X.stack s H Eg).tr pn xe) W) (hW : ∀ cls d σ' H', E cls d H' → W cls d σ' H')
    (hbody : ∀ (A : Around) (outer : List Env) (s : Shared) (H : Hp), A.guards = some [] → Room k (A.deeper (lamEnv X scope s.heap.objs.size f c')) → PE (lamCx X A outer s H E scope f c') body tb)
    (hN : Ng[i]? = some a) (hv : Vis sg a) (hd : (a == ("__debug__" : Str)) = false) (hcd : (a == ("__classdict__" : Str)) = false) :
    PE ((cxOf (L2.CX X.prog X.w) X.prog X.w X.K X.mg X.base Ng qg sg gA cdg X.A X.stack s H Eg).tr pn xe) (.Call (.Name a p1) [] [] p2) (fun σZ HZ Q => σZ[i]? = some (some (.ref f)) ∧ HZ c' = some (CodeO c' (X.env.qual ++ "<lambda>")) ∧ tb σ HZ Q) := by
  refine ⟨fun pz sz σz Hz Q Iz hh => ?_⟩
  obtain ⟨hs, hco, ht⟩ := hh
  refine wpAny_Call_Name_kw (thn ((pe_var (pos := p1) (i := i) hN hv hd hcd).run pz sz σz Hz (fun v H2 => v = .ref f ∧ H2 = Hz) Iz ⟨.ref f, hs, rfl, rfl⟩) fun u s2 ⟨v, H2, I2, r2, e2⟩ => ?_)
  obtain ⟨ev, eh⟩ := e2
  rw [eh] at I2
  rw [ev] at r2
  obtain rfl : u = Value.ref f := r2
  have uz : Un (frs X.stack) [] H Hz s.heap s2.heap := I2.base
  have hf2 := uz.keep f _ hf hfn hfr (by simp)
  refine PySem.W.callWith_F0 ⟨_, _, _, _, hf2⟩ ?_
  obtain ⟨⟨oc, vs, tq, g1, g2, g3⟩, _, _⟩ := I2.hok c' _ hco
  have px := passes_call (E := E) tk hW
  refine wpAny_call (codeAny_mono (R := CR (L2.CX X.prog X.w) (envOfC qg sg s.heap.objs.size gA cdg :: X.stack) X.prog X.w Hz s2 Q E) ?_ fun res s3 hq => ?_)
  · refine PySem.W.kla_callFunE hr.depth hf2 rfl L.co L.gen rfl ⟨c', oc, vs, tq, rfl, g1, g2, g3⟩ ?_
    refine wpAny_of_eq (a := []) hbd (wpAny_newFunctionEnv (fun y hy => (L.own y hy).2) (fun y hy => absurd hy (by simp)) (fun hz hns hsb => ⟨I2.nolimit.fresh _ hsb, ?_⟩) L.kind)
    have kz : ∀ b o, s2.heap.get? b = some o → hz.get? b = some o := fun b o e => hsb.extBut b o (Nat.ne_of_lt (Heap.lt_size e)) (Heap.get?_push_of_some _ e)
    have J := lam_start2 (E := E) (f := f) (c' := c') (tk := s2.toks + ([] : List (Str × Value)).length) I L I2.env0 hr.hd uz hns kz
    refine PySem.W.kla_codeExpr (wpAny_mono ((hbody (X.A.deeper (envOfC qg sg s.heap.objs.size gA cdg)) _ s2 Hz hgd (hr.deeper _)).run [] _ _ Hz Q J ht) (fun v s4 hq => ?_) fun e s4 hq => hq)
    obtain ⟨w', H4, J4, rv, q⟩ := hq
    exact ⟨w', H4, J4.os, J4.bare, J4.base, J4.hok, rv, q⟩
  · cases res with
    | error e => exact px pz σz Hz s2 e s3 I2 hq
    | ok fl =>
      cases fl with
      | ret u => exact I2.after hq
      | _ => exact False.elim hq
end

/-! ### the def that keeps what is raised -/
theorem Ok.lam {K : PySem.W.Frag} {mg : Str → Option Value} {g : Gd} {B : Hp × Hp} {env : Ev} {S : Hp} {σ : L2.St} {H H1 : Hp} (k : Ok K mg g B env S σ H) (e : ExtN H H1) (t : Tabs g.T H1) : Ok K mg g B env S σ H1 where
  frm := k.frm.tabs e t
  len := k.len
  slots := fun i s q => (k.slots i s q).keep (Ex.rf _) fun b w h1 h2 h3 m => ⟨h1, e _ _ h3 m.nt.2⟩
  apart := k.apart
/-- slots of an exception's frame are as many as the names -/
theorem takes_len {X : Cx} {W : WX} (t : Takes X W) : Takes X (fun c d σ H => σ.length = X.N.length → W c d σ H) := fun u s z => by
  obtain ⟨a, B, sI, pins, σ, H, cls, d, h1, I, h2, h3, h4, h5, h6, h7, h8⟩ := z
  exact t u s ⟨a, B, sI, pins, σ, H, cls, d, h1, I, h2, h3, h4, h5, h6, h7, h8 I.len⟩
/-- its body: n = None; try: a() except x as e: n = e; return n -/
structure KeepBody (st : Stmt) (a nm x er : Str) : Prop where
  ex : ∃ (q1 q2 q3 p1 p2 p3 np r1 r2 r3 p4 p5 w1 w2 : Pos) (j : Nat), defBody st = [.Assign [.Name nm q1] (.Constant .none j q2) q3,
    .Try [.Expr (.Call (.Name a p1) [] [] p2) p3] [.ExceptHandler (some (.Name x np)) (some er) [.Assign [.Name nm r1] (.Name er r2) r3] p4] [] [] p5, .Return (some (.Name nm w1)) w2]
  scope : FnScope [a, nm, er] [a] (defScope st)
  la : (defScope st).names.lookup a = some .local
  ln : (defScope st).names.lookup nm = some .local
  le : (defScope st).names.lookup er = some .local
  lx : (defScope st).names.lookup x = some .globalImplicit
  nd : (a == ("__debug__" : Str)) = false ∧ (a == ("__classdict__" : Str)) = false ∧ (nm == ("__debug__" : Str)) = false ∧ (nm == ("__classdict__" : Str)) = false ∧ (er == ("__debug__" : Str)) = false ∧ (er == ("__classdict__" : Str)) = false ∧ (x == ("__debug__" : Str)) = false
/-- x(lambda: e): None, or the exception that came -/
@[simp] def eCa (sub : Str → Bool) (mb : EM) : EM := fun env P Z => mb (env.map noOwn) (fun _ => P .non) (fun y => match y with
  | .exc cx ns ds => sub cx = true ∧ P (.exc cx ns ds)
  | _ => False)
section
variable {X : Cx} {g : Gd} {B : Hp × Hp} {E : XK}
theorem de_caught {T : List (Addr × Str)} {n : Nat} {st : Stmt} {x xe a nm er : Str} {gA CS cA PA : Addr} {fd : FuncData} {params : Arguments} {body : Expr} {scope : Scope} {p lpos pos : Pos} {sub : Str → Bool} {mb : EM} (c : CxK T (n + 2) X g E) (hg : Gl X x) (hm : X.mg x = some (.ref gA))
    (F : Fun X.K x x st gA fd) (hb : Binds X.K fd [a] []) (kb : KeepBody st a nm xe er) (hme : X.mg xe = some (.ref CS)) (hsub : ∀ cx Cx, sub cx = true → X.mg cx = some (.ref Cx) → PySem.W.exmOne X.K (.ref Cx) (.ref CS) = some true)
    (TB : TabB X.base X.mg cA PA) (hcode : X.env.code = .ref cA) (hmT : (PA, X.env.qual ++ "<lambda>") ∈ T) (hu : ∀ p ∈ T, p.1 = PA → p.2 = X.env.qual ++ "<lambda>") (L : LamS X.env.scope scope) (hdef : defaultsOf params X.env = ([], []))
    (hbind : ∀ (q : Str) (cl : List (Str × Addr)) (pm cv ctv : Value), bindArgs (PySem.W.kla_fn "<lambda>" q params body scope cl pm cv ctv) ⟨[], []⟩ = pure [])
    (hbody : ∀ (A : Around) (outer : List Env) (s : Shared) (H : Hp) (E' : XK) (f c' : Addr) (B' : Hp × Hp), CxK T n (lamCx X A outer s H E' scope f c') g E' → DE (lamCx X A outer s H E' scope f c') g B' E' body mb)
    (hdb : (x == ("__debug__" : Str)) = false := by decide) : DE X g B E (.Call (.Name x p) [.Lambda params body scope lpos] [] pos) (eCa sub mb) := by
  obtain ⟨q1, q2, q3, p1, p2, p3, np, r1, r2, r3, p4, p5, w1, w2, j, hbd⟩ := kb.ex
  obtain ⟨d1, d2, d3, d4, d5, d6, d7⟩ := kb.nd
  obtain ⟨oc, od, kV, doc, pm, an, cdv, ct, osl, e, lk, hcg⟩ := F.ex
  subst e
  refine ⟨fun pins s σ H Q I hh => ?_⟩
  obtain ⟨env, S, P, Z, ok, hq, kq, kx⟩ := hh
  have hT : Tabs T H := by
    rw [← c.tb]
    exact ok.frm.tb
  refine wpAny_Call_Name_kw (ld_glob I hg hm ?_ hdb)
  refine PySem.W.callWith_K (h₀ := X.base) I.ok.mod.kin F.kp ?_ (by rfl) (by rfl)
  show wpAny _ _ (spliced ((false, eval (.Lambda params body scope lpos) X.env) :: _)) _ _ s
  refine Calls.spliced_cons (lam_make2 I TB hcode hmT hu hT hdef (L.has I.ok) fun f c' pm2 ctv H1 s1 I1 eN T1 hf hfn hfr hco => ?_)
  refine Calls.spliced_nil ⟨I1.kIn, ?_⟩
  have ok1 : Ok X.K X.mg g B env S σ H1 := ok.lam eN (by rw [c.tb]; exact T1)
  have rc : codeAny (model X.prog X.w) X.A (.call (.ref gA) ⟨[.ref f], []⟩) (CR (L2.CX X.prog X.w) X.stack X.prog X.w H1 s1 Q (fun _ _ _ => False)) s1 := by
    refine run_ofS (N := [a, nm, er]) (ps := [a]) (us := [.ref f]) (vs := [.ref f]) lk hcg kb.scope c.room I1.env0 (hb s1 [.ref f] I1.kIn rfl) (.cons rfl .nil) rfl fun hr2 => ?_
    rw [hbd]
    refine ⟨_, pss_cons (ps_set (i := 1) kb.scope.nd rfl (.inl kb.ln) pe_non rfl (.inr kb.ln)) (pss_cons (ps_kept (i := 2) (c := .ref CS) (ts := fun _ => tAsg (tVar 2) (gName 1))
      (tb := fun W D σz Hz => ∃ Ech : XK, (∀ cls d σ' H', Ech cls d H' → σ'.length = 3 → W cls d σ' H') ∧ σz[0]? = some (some (.ref f)) ∧ Hz c' = some (CodeO c' (X.env.qual ++ "<lambda>")) ∧ ∃ B', clo X g B' Ech mb σ Hz fun _ H' => D.nx σz H')
      rfl rfl kb.scope.nd rfl kb.le ⟨kb.lx, d7, .inl hme⟩ rfl (fun W pn xe tk _ => ⟨fun pz sz σz Hz D Iz hz => ?_⟩) (fun a' oe pn => pss_one (ps_set (i := 1) kb.scope.nd rfl (.inl kb.ln) (pe_var (i := 2) rfl (.inl kb.le) d5 d6) rfl (.inr kb.ln))) (by simp)) (pss_one (ps_ret (pe_var (i := 1) rfl (.inl kb.ln) d3 d4)))), ?_⟩
    · obtain ⟨Ech, hW, h1, h2, h3⟩ := hz
      exact (pss_one (ps_expr (lam_act (i := 0) (E := Ech) c.gd hr2 I1 L hfn hfr hf (hbind _ _ _ _ _) (takes_len tk) (fun cls d σ' H' z hl => hW cls d σ' H' z hl) (fun A outer s2 H2 hA hR =>
        pe_any (t := fun B1 => clo X g B1 Ech mb) fun B' => hbody A outer s2 H2 Ech f c' B' ⟨hR, c.tb, hA, takes_of rfl rfl rfl rfl, rfl⟩) rfl (.inl kb.la) d1 d2))).run pz sz σz Hz D Iz ⟨h1, h2, h3⟩
    · refine ⟨fun cls d H2 => PySem.W.exmOne X.K cls (.ref CS) = some true ∧ ∀ a', H2 a' = none → Q (.ref a') (upd H2 a' (exV cls d a')), fun cls d σ2 H2 z hl => ⟨z.1, fun a' ha' => ?_⟩, rfl, hco, (S, H1), env.map noOwn, S, _, _, ok1.noOwn, hq, fun d v S2 H2 q2 ok2 ex2 rv => ?_, fun y cls dx S2 H2 q2 f2 rx => ?_⟩
      · refine ⟨.ref a', by rw [List.getElem?_set_self (by omega)], ?_⟩
        refine ⟨.ref a', ?_, z.2 a' ha'⟩
        rw [List.getElem?_set_ne (by decide), List.getElem?_set_self (by rw [List.length_set]; omega)]
      · exact ⟨.non, rfl, kq .non .non S2 H2 q2 (ok1.call ok2.frm) ex2 (by unfold Rep; rfl)⟩
      · cases y with
        | exc cx ns ds =>
          obtain ⟨Cx, vs, x1, x2, x3, x4, x5, x6⟩ := rx
          subst x2
          refine ⟨hsub cx Cx q2.1 x1, fun a' ha' => ?_⟩
          have nw := New.add (o := exV (.ref Cx) dx a') f2.le ha' (fun ps w => by unfold exV at w; cases w)
          refine kq (.exc cx ns ds) (.ref a') _ _ q2.2 (ok1.call (f2.new nw)) (f2.ss.tr nw.ss) ?_
          unfold Rep
          exact ⟨a', Cx, dx, vs, rfl, x1, upd_same, x3.mono nw.ss, x4, fun d2 w => nw.ss _ _ (x5 d2 w), x6⟩
        | _ => exact q2.elim
  refine wpAny_call (codeAny_mono rc fun res s2 hq2 => ?_)
  cases res with
  | error e =>
    obtain ⟨_, _, _, _, _, _, _, _, _, _, _, _, w⟩ := hq2
    exact w.elim
  | ok fl =>
    cases fl with
    | ret u => exact I1.after hq2
    | _ => exact False.elim hq2
end
end DL

set_option Elab.async false
set_option linter.all false
set_option maxRecDepth 100000
set_option maxHeartbeats 2000000
/-! DZ: isinstance; fields of an exception that is held. -/
namespace DL
open PySem PySem.Spec PyProof.Rows L2

/-- what the written part says of an own exception class -/
structure XcK (K : PySem.W.Frag) (C : Addr) : Prop where
  cl : (PySem.W.clsIn K C).isSome = true
  hd : PySem.W.hasDictIn K C = true
  ga : PySem.W.findIn K (.ref C) "__getattribute__" = some (some (.builtin "BaseException.__getattribute__"))
  gg : PySem.W.findIn K (.ref C) "__getattr__" = some none
  ex : PySem.W.subIn K (.ref C) (.type "BaseException") = some true
  cc : PySem.W.findIn K (.ref C) "__class__" = some (some (.builtin "object.__class__"))
  gs : PySem.W.specialIn K (.builtin "object.__class__") "__get__" = some (some (.builtin "getset_descriptor.__get__"))
  tk : PySem.W.takesIn K (.builtin "object.__class__") = some true
  ob : PySem.W.mroIn K C (.type "object") = some true
section
variable {X : Cx}
/-- the object behind such a value, in the heap -/
theorem exV_at {H : Hp} {h : Heap} {a C : Addr} {d : Option Addr} (ok : HOk X.prog X.w H h) (e : H a = some (exV (.ref C) d a)) (hd : ∀ dx, d = some dx → ∃ fs, H dx = some (.xd fs)) :
    ∃ ox od, PySem.W.InstAt h a ox C od ∧ ∀ dx, d = some dx → ∃ (fs : List (Str × V)) (o : Obj) (mA : Str → Option Value), H dx = some (.xd fs) ∧ od = some o ∧ (∀ name, PySem.W.lookIn name o = some (mA name)) ∧ ∀ f, RelO (fs.lookup f) (mA f) := by
  have z : ObjOk X.prog X.w H h a (exV (.ref C) d a) := ok a _ e
  obtain ⟨⟨oe, vs, h1, ⟨h2, h3⟩, h4⟩, _, _⟩ := z
  obtain ⟨oc, od', odt, osl⟩ := oe
  dsimp only at h2 h3 h4
  subst h2 h4
  cases od' with
  | none =>
    cases h3
    exact ⟨_, none, ⟨h1, rfl, rfl, trivial⟩, fun dx q => by cases q⟩
  | some dx =>
    cases h3
    obtain ⟨fs, hx⟩ := hd dx rfl
    have y : ObjOk X.prog X.w H h dx (.xd fs) := ok dx _ hx
    obtain ⟨mA, hn, hr⟩ := y
    obtain ⟨o, ho, hl⟩ := lookIn_ns hn
    exact ⟨_, some o, ⟨h1, rfl, rfl, ho⟩, fun dx2 q => by cases q; exact ⟨fs, o, mA, hx, rfl, hl, hr⟩⟩
def rIsX (K : PySem.W.Frag) : List V → Hp → VK → Prop := fun xs H Q => ∃ (a C : Addr) (d : Option Addr) (c : V) (u : Value) (b : Bool), xs = [.ref a, c] ∧ ClsV c u ∧ H a = some (exV (.ref C) d a) ∧ (∀ dx, d = some dx → ∃ fs, H dx = some (.xd fs)) ∧ XcK K C ∧ PySem.W.kitOne K (.ref C) u = some b ∧ Q (.bl b) H
theorem call_isX : CallR X (.builtin "isinstance") (rIsX X.K) := by
  intro pins s σ H xs us Q I r h
  obtain ⟨a, C, d, c, u, b, rfl, hc, ha, hd, T, e, q⟩ := h
  obtain ⟨u1, u2, rfl, r1, r2⟩ := vals2 r
  have e2 := hc.eq r2
  subst e2
  obtain rfl : u1 = Value.ref a := r1
  obtain ⟨ox, od, J, _⟩ := exV_at I.hok ha hd
  exact PySem.W.kia_one (PySem.W.kitx_exc T.cl T.ga T.gg T.ex T.cc T.gs T.tk T.ob) I.kIn J e (fun z => nomatch z) fun tk => ⟨.bl b, H, I.tok tk, rfl, q⟩
end
/-- a plain datum's built-in type -/
@[simp] def tyN : D → Option String
  | .non => some "NoneType"
  | .bl _ => some "bool"
  | .int _ => some "int"
  | .str _ => some "str"
  | .tup _ => some "tuple"
  | .lst _ => some "list"
  | _ => none
/-- isinstance(x, c): ko, ke tell the answers for own classes -/
@[simp] def bIsi (ko : String → Str → Option Bool) (ke : Str → Str → Option Bool) : List D → W D := fun as P _ => match as with
  | [.exc x ns ds, .fn c] => match ke x c with
    | some b => P (.bl b)
    | none => False
  | [d, .ty T] => match tyN d with
    | some t => match kitB t T with
      | some b => P (.bl b)
      | none => False
    | none => False
  | [d, .fn c] => match tyN d with
    | some t => match ko t c with
      | some b => P (.bl b)
      | none => False
    | none => False
  | _ => False
section
variable {X : Cx} {g : Gd}
theorem tyx_of {S H : Hp} {d : D} {v : V} {t : String} (l : Le S H) (r : Rep X.K X.mg g S d v) (e : tyN d = some t) : TyX X.K H v (.type t) := by
  cases d with
  | non =>
    unfold Rep at r
    cases Option.some.inj e
    rw [r]
    exact .base .non
  | bl b =>
    unfold Rep at r
    cases Option.some.inj e
    rw [r]
    exact .base (.bl b)
  | int i =>
    unfold Rep at r
    cases Option.some.inj e
    rw [r]
    exact .base (.int i)
  | str i =>
    unfold Rep at r
    cases Option.some.inj e
    rw [r]
    exact .base (.str i)
  | tup ds =>
    unfold Rep at r
    cases Option.some.inj e
    obtain ⟨a, vs, rfl, h2, h3⟩ := r
    exact .base (.tup (l.tup h2))
  | lst ds =>
    unfold Rep at r
    cases Option.some.inj e
    obtain ⟨a, vs, rfl, h2, h3⟩ := r
    rcases l.sqL (SqL.of h2) with (z | ⟨o, z⟩) | ⟨o, its, n, z1, z2, z3⟩
    · exact .base (.lst z)
    · exact .base (.frz z)
    · exact .kList z1 z2
  | _ => cases e

theorem bisi_ok {ko : String → Str → Option Bool} {ke : Str → Str → Option Bool} (hko : ∀ t c C b, ko t c = some b → X.mg c = some (.ref C) → PySem.W.kitOne X.K (.type t) (.ref C) = some b)
    (hke : ∀ x c Cx Cc b, ke x c = some b → X.mg x = some (.ref Cx) → X.mg c = some (.ref Cc) → XcK X.K Cx ∧ PySem.W.kitOne X.K (.ref Cx) (.ref Cc) = some b) : OpA X g (bIsi ko ke) (fun xs H Q => rIsi X.K xs H Q ∨ rIsX X.K xs H Q) := fun as xs B S H P Z Q f r h k => by
  unfold bIsi at h
  split at h
  · rename_i x ns ds c
    split at h
    · rename_i b e
      obtain ⟨v, w, rfl, rx, rc⟩ := rep2 r
      unfold Rep at rx rc
      obtain ⟨a, C, d, vs, rfl, hx, hS, hR, hl, hd, hn⟩ := rx
      obtain ⟨Cc, rfl, hc⟩ := rc
      obtain ⟨T, hk⟩ := hke x c C Cc b e hx hc
      refine .inr ⟨a, C, d, .ref Cc, .ref Cc, b, rfl, .own Cc, ?_, fun dx q => ⟨_, (f.le _ _ (hd dx q)).resolve_right fun z => by cases z.1⟩, T, hk, k _ _ S H h (New.rf f.le) (rb _ S)⟩
      exact (f.le _ _ hS).resolve_right fun z => by
        have z1 := z.1
        unfold exV at z1
        cases z1
    · exact h.elim
  · rename_i d T
    split at h
    · rename_i t et
      split at h
      · rename_i b e
        obtain ⟨v, w, rfl, rx, rc⟩ := rep2 r
        unfold Rep at rc
        subst rc
        exact .inl ⟨v, .ty T, .type t, .type T, b, rfl, .ty T, tyx_of f.le rx et, kit_ty e, k _ _ S H h (New.rf f.le) (rb _ S)⟩
      · exact h.elim
    · exact h.elim
  · rename_i d c hd
    split at h
    · rename_i t et
      split at h
      · rename_i b e
        obtain ⟨v, w, rfl, rx, rc⟩ := rep2 r
        unfold Rep at rc
        obtain ⟨Cc, rfl, hc⟩ := rc
        exact .inl ⟨v, .ref Cc, .type t, .ref Cc, b, rfl, .own Cc, tyx_of f.le rx et, hko t c Cc b e hc, k _ _ S H h (New.rf f.le) (rb _ S)⟩
      · exact h.elim
    · exact h.elim
  · exact h.elim
theorem op_isi : CallR X (.builtin "isinstance") (fun xs H Q => rIsi X.K xs H Q ∨ rIsX X.K xs H Q) := callr_or call_isi call_isX
end

/-! ### o.f of an exception that is held -/
@[simp] def eXf (okx : Str → Bool) (fn : Str) (ma : EM) : EM := fun env P Z => ma env (fun d => match d with
  | .exc x ns ds => okx x = true ∧ match (ns.zip ds).lookup fn with
    | some y => P y
    | none => False
  | _ => False) Z
section
variable {X : Cx} {g : Gd} {B : Hp × Hp} {E : XK} {a : Expr} {ma : EM} {pos : Pos} {fn : Str}
theorem zip_look {S : Hp} : ∀ {ns : List Str} {ds : List D} {vs : List V} {y : D}, Reps X.K X.mg g S ds vs → (ns.zip ds).lookup fn = some y → ∃ v, (ns.zip vs).lookup fn = some v ∧ Rep X.K X.mg g S y v
  | [], ds, vs, y, r, e => by simp at e
  | n :: ns, [], vs, y, r, e => by simp at e
  | n :: ns, d :: ds, vs, y, r, e => by
    unfold Reps at r
    obtain ⟨w, ws, rfl, h2, h3⟩ := r
    rw [List.zip_cons_cons] at e ⊢
    by_cases q : (fn == n) = true
    · rw [List.lookup_cons, q] at e ⊢
      cases Option.some.inj e
      exact ⟨w, rfl, h2⟩
    · have q' : (fn == n) = false := by simpa using q
      rw [List.lookup_cons, q'] at e ⊢
      exact zip_look h3 e
theorem de_xf {okx : Str → Bool} (hk : ∀ x C, okx x = true → X.mg x = some (.ref C) → XcK X.K C ∧ PySem.W.findIn X.K (.ref C) fn = some none) (ha : DE X g B E a ma) (hb : attributeBase a fn X.env (eval a X.env) = eval a X.env := by rfl) : DE X g B E (.Attribute a fn pos) (eXf okx fn ma) := by
  refine ⟨fun pins s σ H Q I h => ?_⟩
  obtain ⟨env, S, P, Z, ok, hm, k, kx⟩ := h
  refine attr_of hb (thn (ha.run pins s σ H (fun v H1 => ∃ (a C : Addr) (dx : Addr) (fs : List (Str × V)) (w : V), v = .ref a ∧ H1 a = some (exV (.ref C) (some dx) a) ∧ H1 dx = some (.xd fs) ∧ fs.lookup fn = some w ∧ XcK X.K C ∧ PySem.W.findIn X.K (.ref C) fn = some none ∧ Q w H1) I
    ⟨env, S, _, Z, ok, hm, fun d v S1 H1 q ok1 ex r => ?_, kx⟩) fun u s1 hh => ?_)
  · cases d with
    | exc x ns ds =>
      obtain ⟨q1, q2⟩ := q
      split at q2
      · rename_i y ey
        unfold Rep at r
        obtain ⟨p, C, d, vs, rfl, hx, hS, hR, hl, hd, hn⟩ := r
        obtain ⟨w, hw, rw_⟩ := zip_look hR ey
        obtain ⟨T, hno⟩ := hk x C q1 hx
        cases d with
        | none =>
          rw [hn rfl] at ey
          simp at ey
        | some dx =>
          refine ⟨p, C, dx, _, w, rfl, ?_, (ok1.frm.le _ _ (hd dx rfl)).resolve_right (fun z => by cases z.1), hw, T, hno, k y w S1 H1 q2 ok1 ex rw_⟩
          exact (ok1.frm.le _ _ hS).resolve_right fun z => by
            have z1 := z.1
            unfold exV at z1
            cases z1
      · exact q2.elim
    | _ => exact q.elim
  · obtain ⟨v, H1, I1, r1, p, C, dx, fs, w, rfl, hp, hd, hw, T, hno, q⟩ := hh
    obtain rfl : u = Value.ref p := r1
    obtain ⟨ox, od, J, hy⟩ := exV_at I1.hok hp fun d2 z => by cases z; exact ⟨fs, hd⟩
    obtain ⟨fs2, o, mA, z1, z2, z3, z4⟩ := hy dx rfl
    rw [hd] at z1
    cases z1
    subst z2
    obtain ⟨u2, hu, ru⟩ := RelO.some_of (v := w) (o := mA fn) (by rw [← hw]; exact z4 fn)
    exact HandSPX.exc_get I1.kIn J T.ga T.gg T.ex (PySem.W.findObj_own T.hd hno rfl (by rw [z3, hu])) (handed_of ru) ⟨w, H1, I1.tok _, ru, q⟩
end
end DL

set_option Elab.async false
set_option linter.all false
set_option maxRecDepth 100000
set_option maxHeartbeats 2000000
/-! DR: repr, comb, texts. -/
namespace DL
open PySem PySem.Spec PyProof.Rows L2

/-! ### repr -/
mutual
theorem noDic : ∀ (d : D) (p : PyData), toPy d = some p → p.hasDict = false
  | .non, p, e => by cases Option.some.inj e; rfl
  | .bl b, p, e => by cases Option.some.inj e; rfl
  | .int i, p, e => by cases Option.some.inj e; rfl
  | .str x, p, e => by cases Option.some.inj e; rfl
  | .tup l, p, e => by
    unfold toPy at e
    cases q : toPys l with
    | none =>
      rw [q] at e
      cases e
    | some ps =>
      rw [q] at e
      cases Option.some.inj e
      exact noDics l ps q
  | .lst l, p, e => by
    unfold toPy at e
    cases q : toPys l with
    | none =>
      rw [q] at e
      cases e
    | some ps =>
      rw [q] at e
      cases Option.some.inj e
      exact noDics l ps q
  | .fn _, p, e => by cases e
  | .ty _, p, e => by cases e
  | .exc _ _ _, p, e => by cases e
  | .ins _ _ _, p, e => by cases e
  | .dic _ _, p, e => by cases e
  | .drw, p, e => by cases e
  | .scr _, p, e => by cases e
  | .opq _, p, e => by cases e
theorem noDics : ∀ (ds : List D) (ps : List PyData), toPys ds = some ps → PyData.hasDictAll ps = false
  | [], ps, e => by cases Option.some.inj e; rfl
  | d :: ds, ps, e => by
    unfold toPys at e
    cases q : toPy d with
    | none =>
      rw [q] at e
      cases e
    | some p =>
      rw [q] at e
      cases q2 : toPys ds with
      | none =>
        rw [q2] at e
        cases e
      | some ps' =>
        rw [q2] at e
        cases Option.some.inj e
        unfold PyData.hasDictAll
        rw [noDic d p q, noDics ds ps' q2]
        rfl
end
def rRpr (K : PySem.W.Frag) : List V → Hp → VK → Prop := fun xs H Q => ∃ v p, xs = [v] ∧ Dp K H v p ∧ p.showable = true ∧ p.hasDict = false ∧ p.shown.length ≤ sizeLine ∧ p.depth ≤ 100 ∧ Q (.str p.shown) H
theorem call_rpr {X : Cx} (hg : X.A.guards = some []) (hu : X.A.units + 200 < cLine) : CallR X (.builtin "repr") (rRpr X.K) := by
  intro pins s σ H xs us Q I r h
  obtain ⟨v, p, rfl, dp, hs, hd, hz, hp, q⟩ := h
  obtain ⟨u, rfl, ru⟩ := vals1 r
  obtain ⟨as, rd⟩ := Dp.reads I p v u dp ru
  have q2 : ∀ h' (t t' : Tok), (∀ b o, s.heap.get? b = some o → h'.get? b = some o) → EP X pins σ Q (.str p.shown t) { s with heap := h', toks := t' } := fun h' t t' k => ⟨.str p.shown, H, I.kept k, ⟨_, rfl⟩, q⟩
  cases rd with
  | none => exact PySem.P.repr_of_none (q2 s.heap _ _ fun _ _ z => z)
  | bool b => exact PySem.P.repr_of_bool (q2 s.heap _ _ fun _ _ z => z)
  | int i t => exact PySem.P.repr_of_int (by simpa [PyData.showable] using hs) (q2 s.heap _ _ fun _ _ z => z)
  | str x t => exact PySem.P.repr_of_str (q2 s.heap _ _ fun _ _ z => z) hz
  | list h1 h2 h3 h4 => exact repr_of_reads' (.list h1 h2 h3 h4) hs (PyData.noDict_hsm hd) hg (by omega) (fun _ _ z => z) (fun h' t t' k => q2 h' t t' k) hz
  | tuple h1 h2 h3 h4 => exact repr_of_reads' (.tuple h1 h2 h3 h4) hs (PyData.noDict_hsm hd) hg (by omega) (fun _ _ z => z) (fun h' t t' k => q2 h' t t' k) hz
  | dict h1 h2 h3 h4 h5 =>
    unfold PyData.hasDict at hd
    cases hd
@[simp] def bRpr : List D → W D := fun as P _ => match as with
  | [d] => match toPy d with
    | some p => (p.showable = true ∧ p.shown.length ≤ 16777216 ∧ p.depth ≤ 100) ∧ P (.str p.shown)
    | none => False
  | _ => False
theorem brpr_ok {X : Cx} {g : Gd} : OpA X g bRpr (rRpr X.K) := fun as xs B S H P Z Q f r h k => by
  unfold bRpr at h
  split at h
  · rename_i d
    split at h
    · rename_i p e
      obtain ⟨v, rfl, rv⟩ := rep1 r
      exact ⟨v, p, rfl, dp_of f.le d v p rv e, h.1.1, noDic d p e, by rw [sizeLine_eq]; exact h.1.2.1, h.1.2.2, k _ _ S H h.2 (New.rf f.le) (rs _ S)⟩
    · exact h.elim
  · exact h.elim

/-! ### times, of ints, of a text, of a list -/
def strTimes (x : Str) (n : Int) : Str := if n < 1 then Str.empty else if (n == 1 || x.length == 0) = true then x else ⟨(List.replicate n.toNat x.cps).foldl (· ++ ·) #[]⟩
def rStm : R2 := fun x y H Q => ∃ (a : Str) (n : Int), x = .str a ∧ y = .int n ∧ (0 ≤ n ∧ n ≤ 1000 ∧ a.length ≤ 1000) ∧ (strTimes a n).length ≤ sizeLine ∧ Q (.str (strTimes a n)) H
theorem op_stm {X : Cx} : OpR X (binaryOp .Mult) rStm := by
  intro pins s σ H x y v u Q I rx ry h
  obtain ⟨a, n, rfl, rfl, ⟨h0, h1, h2⟩, h3, q⟩ := h
  obtain ⟨t, rfl⟩ := (show ∃ t, v = Value.str a t from rx)
  obtain ⟨t2, rfl⟩ := (show ∃ t, u = Value.int n t from ry)
  have fin : ∀ (z : Str) (t3 : Tok) (t4 : Nat), z = strTimes a n → EP X pins σ Q (.str z t3) { s with toks := t4 } := fun z t3 t4 e => by
    rw [e]
    exact ⟨.str (strTimes a n), H, I.tok _, ⟨_, rfl⟩, q⟩
  refine PySem.P.mul_str ?_ (fun _ _ => ?_) (fun _ _ => ?_) ?_
  · rw [decide_eq_false (by omega), decide_eq_false (by omega)]
    rfl
  · have e : (2 ^ 63 - 1 : Int) / n ≥ 1000 := by
      by_cases hn : n = 0
      · subst hn
        omega
      · exact Int.le_ediv_of_mul_le (by omega) (by omega)
    omega
  · unfold Builtin.Str.tooLong
    have e : a.length * n.toNat ≤ 1000 * 1000 := Nat.mul_le_mul h2 (by omega)
    have := sizeLine_eq
    first
      | exact decide_eq_false (by omega)
      | simp; omega
  · by_cases c1 : n < 1
    · rw [if_pos c1]
      exact ⟨by decide, fin _ _ _ (by unfold strTimes; rw [if_pos c1])⟩
    · rw [if_neg c1]
      by_cases c2 : (n == 1 || a.length == 0) = true
      · rw [if_pos c2]
        exact fin _ _ s.toks (by unfold strTimes; rw [if_neg c1, if_pos c2])
      · rw [if_neg c2]
        have e : strTimes a n = ⟨(List.replicate n.toNat a.cps).foldl (· ++ ·) #[]⟩ := by unfold strTimes; rw [if_neg c1, if_neg c2]
        exact ⟨by rw [← e]; exact h3, fin _ _ _ e.symm⟩
def dTim : D → D → W D
  | .int i, .int j => fun P _ => (CMulW i j ∨ CMul i j) ∧ P (.int (i * j))
  | .str x, .int j => fun P _ => ((0 ≤ j ∧ j ≤ 1000 ∧ x.length ≤ 1000) ∧ (strTimes x j).length ≤ 16777216) ∧ P (.str (strTimes x j))
  | .lst l, .int j => fun P _ => (-(2 ^ 63) ≤ j ∧ j < 2 ^ 63 ∧ l.length * j.toNat ≤ 16777216) ∧ P (.lst (List.replicate j.toNat l).flatten)
  | _, _ => W.fail
@[simp] theorem dTim_ii (i j : Int) : dTim (.int i) (.int j) = fun P _ => (CMulW i j ∨ CMul i j) ∧ P (.int (i * j)) := rfl
def rTim : R2 := fun x y H Q => ((rI CMulW (fun i j => .int (i * j)) x y H Q ∨ rI CMul (fun i j => .int (i * j)) x y H Q) ∨ rStm x y H Q) ∨ rRep x y H Q
theorem op_tim {X : Cx} : OpR X (binaryOp .Mult) rTim := opr_or (opr_or (opr_or op_mulW op_mul) op_stm) op_rep
theorem reps_rep {X : Cx} {g : Gd} {S : Hp} {l : List D} {vs : List V} (r : Reps X.K X.mg g S l vs) : ∀ n : Nat, Reps X.K X.mg g S (List.replicate n l).flatten (List.replicate n vs).flatten
  | 0 => by
    simp [Reps]
  | n + 1 => by
    rw [List.replicate_succ, List.replicate_succ, List.flatten_cons, List.flatten_cons]
    exact r.app (reps_rep r n)
theorem dtim_ok {X : Cx} {g : Gd} : Op2 X g dTim rTim := fun a b x y B S H P Z Q f rx ry h k => by
  have sl := sizeLine_eq
  unfold dTim at h
  split at h
  · unfold Rep at rx ry
    subst rx ry
    rcases h.1 with z | z
    · exact .inl (.inl (.inl ⟨_, _, rfl, rfl, z, k _ _ S H h.2 (New.rf f.le) (ri _ S)⟩))
    · exact .inl (.inl (.inr ⟨_, _, rfl, rfl, z, k _ _ S H h.2 (New.rf f.le) (ri _ S)⟩))
  · unfold Rep at rx ry
    subst rx ry
    exact .inl (.inr ⟨_, _, rfl, rfl, h.1.1, by rw [sl]; exact h.1.2, k _ _ S H h.2 (New.rf f.le) (rs _ S)⟩)
  · rename_i l j
    unfold Rep at rx ry
    subst ry
    obtain ⟨p, vs, rfl, h2, h3⟩ := rx
    have e1 : H p = some (.lst vs) := (f.le _ _ h2).resolve_right fun z => by cases z.1
    refine .inr ⟨p, j, vs, rfl, rfl, e1, h.1.1, h.1.2.1, by rw [← h3.len, sl]; exact h.1.2.2, fun q hq => ?_⟩
    have n := New.add (o := .lst (List.replicate j.toNat vs).flatten) f.le hq (fun ps z => by cases z)
    exact k _ _ _ _ h.2 n (by unfold Rep; exact ⟨q, _, rfl, upd_same, (reps_rep h3 _).mono n.ss⟩)
  · exact h.elim

/-! ### int(x) of texts too; comb -/
@[simp] def bInt2 : List D → W D := fun as P _ => match as with
  | [.int i] => P (.int i)
  | [.bl k] => P (.int (if k then 1 else 0))
  | [.str x] => match PySem.intText? x with
    | some n => x.length ≤ 640 ∧ P (.int n)
    | none => False
  | _ => False
def rInt2 : List V → Hp → VK → Prop := fun xs H Q => ((∃ i, xs = [.int i] ∧ Q (.int i) H) ∨ ∃ k, xs = [.bl k] ∧ Q (.int (if k then 1 else 0)) H) ∨ ∃ a n, xs = [.str a] ∧ PySem.intText? a = some n ∧ a.length ≤ 640 ∧ Q (.int n) H
theorem call_int2 {X : Cx} : CallR X (.type "int") rInt2 := callr_or call_int1 call_int_str
theorem bint2_ok {X : Cx} {g : Gd} : OpA X g bInt2 rInt2 := fun as xs B S H P Z Q f r h k => by
  unfold bInt2 at h
  split at h
  · obtain ⟨x, rfl, rx⟩ := rep1 r
    unfold Rep at rx
    subst rx
    exact .inl (.inl ⟨_, rfl, k _ _ S H h (New.rf f.le) (ri _ S)⟩)
  · obtain ⟨x, rfl, rx⟩ := rep1 r
    unfold Rep at rx
    subst rx
    exact .inl (.inr ⟨_, rfl, k _ _ S H h (New.rf f.le) (ri _ S)⟩)
  · split at h
    · rename_i n e
      obtain ⟨x, rfl, rx⟩ := rep1 r
      unfold Rep at rx
      subst rx
      exact .inr ⟨_, n, rfl, e, h.1, k _ _ S H h.2 (New.rf f.le) (ri _ S)⟩
    · exact h.elim
  · exact h.elim
def CCmb (a b : Int) : Prop := 0 ≤ b ∧ b ≤ a ∧ b ≤ 9000 ∧ (PySem.W.mcComb a b).natAbs.log2 < 1000000
def rCmb : List V → Hp → VK → Prop := fun xs H Q => ∃ a b, xs = [.int a, .int b] ∧ CCmb a b ∧ Q (.int (PySem.W.mcComb a b)) H
theorem call_cmb {X : Cx} : CallR X (.builtin "math.comb") rCmb := by
  intro pins s σ H xs us Q I r h
  obtain ⟨a, b, rfl, ⟨h0, h1, h2, h3⟩, q⟩ := h
  obtain ⟨u1, u2, rfl, r1, r2⟩ := vals2 r
  obtain ⟨t, rfl⟩ := (show ∃ t, u1 = Value.int a t from r1)
  obtain ⟨t2, rfl⟩ := (show ∃ t, u2 = Value.int b t from r2)
  have e := PySem.W.mcComb_at h0 h1 rfl
  have hm : min b (a - b) ≤ 9000 := Int.le_trans (Int.min_le_left _ _) h2
  have gv := PySem.W.mc_run_comb a t b t2 (by omega) (by omega) (by omega) (by unfold Builtin.Math.maxSsize; omega) (by unfold Builtin.Math.manyFactors; omega) (by omega) (by rw [← e, bitsLine_eq]; omega)
  rw [← e] at gv
  exact call_function_meets PySem.W.MGF.kind_comb PySem.W.MGF.plain_comb PySem.W.MGF.entry_comb (PySem.W.MGF.args_comb _ _) gv.meets ⟨.int _, H, I.tok _, ⟨_, rfl⟩, q⟩
@[simp] def bCmb : List D → W D := fun as P _ => match as with
  | [.int a, .int b] => CCmb a b ∧ P (.int (PySem.W.mcComb a b))
  | _ => False
theorem bcmb_ok {X : Cx} {g : Gd} : OpA X g bCmb rCmb := fun as xs B S H P Z Q f r h k => by
  unfold bCmb at h
  split at h
  · obtain ⟨x, y, rfl, rx, ry⟩ := rep2 r
    unfold Rep at rx ry
    subst rx ry
    exact ⟨_, _, rfl, h.1, k _ _ S H h.2 (New.rf f.le) (ri _ S)⟩
  · exact h.elim
section
variable {X : Cx} {g : Gd} {B : Hp × Hp} {E : XK} {a : Expr} {es : List Expr} {ml : Ev → W (List D)} {pos : Pos}
/-- a module's name for a built-in function -/
theorem de_bf {x : Str} {p : Pos} {id : String} {f : List D → W D} {r : List V → Hp → VK → Prop} (hc : CallR X (.builtin id) r) (hf : OpA X g f r) (hg : Gl X x) (hm : X.mg x = some (.builtin id)) (ha : DAr X g B E (a :: es) ml) (hdb : (x == ("__debug__" : Str)) = false := by decide)
    (hst : noStar (a :: es) = true := by rfl) : DE X g B E (.Call (.Name x p) (a :: es) [] pos) (eA f ml) := by
  refine pe_imp (pe_callBfun hc hg hm ha hdb (st_cons hst) (st_any hst)) fun σ H Q h => ?_
  obtain ⟨env, S, P, Z, ok, hm, k, kx⟩ := h
  exact ⟨env, S, _, Z, ok, hm, fun ds vs S' H' p ok' ex r => hf ds vs B S' H' P Z Q ok'.frm r p fun d v S3 H3 p3 n r3 => k d v S3 H3 p3 (ok'.new n) (ex.tr n.ss) r3, kx⟩
end
end DL

set_option Elab.async false
set_option linter.all false
set_option maxRecDepth 100000
set_option maxHeartbeats 2000000
/-! DV: the draws: reading and writing the dict of the cells. -/
namespace DL
open PySem PySem.Spec PyProof.Rows L2

/-- an object of the region is written -/
theorem Frm.reg {g : Gd} {S0 H0 S H : Hp} {a : Addr} {o u : HO} (f : Frm g S0 H0 S H) (ha : a ∈ g.R) (h : H a = some o) (nt : ∀ ps, o ≠ .tbl ps) (nc : ∀ φ, o ≠ .ext φ) (dw : g.dw (upd H a u)) : Frm g S0 H0 S (upd H a u) where
  ss := f.ss
  le := fun b w z => by
    rw [upd_ne (fun q => by rw [q, f.rs a ha] at z; cases z)]
    exact f.le b w z
  fr := fun b w h1 h2 h3 => by
    rw [upd_ne (fun q => h2 (by rw [q]; exact ha))]
    exact f.fr b w h1 h2 h3
  al := fun b z => by
    by_cases q : b = a
    · rw [q, upd_same] at z
      cases z
    · rw [upd_ne q] at z
      exact f.al b z
  nw := f.nw
  dw := dw
  rs := f.rs
  tb := tabs_upd f.tb h nt nc
  nt := f.nt
  kn := f.kn
theorem Ok.reg {K : PySem.W.Frag} {mg : Str → Option Value} {g : Gd} {B : Hp × Hp} {env : Ev} {S : Hp} {σ : L2.St} {H : Hp} {a : Addr} {o u : HO} (k : Ok K mg g B env S σ H) (ha : a ∈ g.R) (h : H a = some o) (nt : ∀ ps, o ≠ .tbl ps) (nc : ∀ φ, o ≠ .ext φ) (dw : g.dw (upd H a u)) :
    Ok K mg g B env S σ (upd H a u) where
  frm := k.frm.reg ha h nt nc dw
  len := k.len
  slots := fun i s q => (k.slots i s q).keep (Ex.rf _) fun b w h1 h2 h3 _ => ⟨h1, by rw [upd_ne (fun q => h2 (by rw [q]; exact ha))]; exact h3⟩
  apart := k.apart

section
variable {X : Cx} {g : Gd} {B : Hp × Hp} {E : XK} {T : List (Addr × Str)} {n i : Nat} {x : Str} {px pc pos pos' apos cpos pa p2 p3 p4 p5 p6 qx qc q2 : Pos} {j j2 j3 : Nat}
/-- a whole number that is at least 0, any -/
@[simp] def eDi (i : Nat) : EM := fun env P _ => env[i]? = some (.sh .drw) ∧ ∀ t : Int, 0 ≤ t → P (.int t)
/-- a list of whole numbers that are at least 0 -/
@[simp] def eDc (i : Nat) : EM := fun env P _ => env[i]? = some (.sh .drw) ∧ ∀ cs : List Int, cs.length ≤ 63 → (∀ z ∈ cs, 0 ≤ z) → P (.lst (cs.map D.int))
theorem drw_slot {env : Ev} {S : Hp} {σ : L2.St} {H : Hp} (ok : Ok X.K X.mg g B env S σ H) (e : env[i]? = some (.sh .drw)) : ∃ (d b c : Addr) (cells : List Int), σ[i]? = some (some (.ref d)) ∧ g.R = [d, b] ∧ g.ks c = some (.lst (cells.map V.int)) ∧ cells.length ≤ 63 ∧ (∀ z ∈ cells, 0 ≤ z) ∧
    (∀ H, g.dw H ↔ DrwAt d b c H) ∧ DrwAt d b c H := by
  obtain ⟨v, hs, rv⟩ := ok.slots i _ e
  unfold Rep at rv
  obtain ⟨rfl, d, b, c, cells, h1, h2, h3, h4, h5, h6⟩ := rv
  rw [h1] at hs
  exact ⟨d, b, c, cells, hs, h2, h3, h4, h5, h6, (h6 H).mp ok.frm.dw⟩
theorem ints_rep {S : Hp} : ∀ l : List Int, Reps X.K X.mg g S (l.map D.int) (l.map V.int)
  | [] => Reps.nil
  | i :: l => Reps.cons (ri i S) (ints_rep l)
theorem de_dint {key : Str} (hk : key = "rest" ∨ key = "turn") (c : CxK T n X g E) (hN : X.N[i]? = some x := by rfl) (hv : Vis X.env.scope x := by first | exact Or.inl rfl | exact Or.inr (Or.inl rfl) | exact Or.inr (Or.inr rfl)) (hd : (x == ("__debug__" : Str)) = false := by decide)
    (hcd : (x == ("__classdict__" : Str)) = false := by decide) (hs : NoSl (.Constant (.str key) j pc) := by intro _ _; rfl) : DE X g B E (.Subscript (.Name x px) (.Constant (.str key) j pc) pos) (eDi i) := by
  refine pe_imp (pe_dget c.un (pe_var (i := i) hN hv hd hcd) pe_str hs) fun σ H Q h => ?_
  obtain ⟨env, S, P, Z, ok, ⟨e, hm⟩, k, kx⟩ := h
  obtain ⟨d, b, cc, cells, hsl, hR, hc, hl, hn, hdw, big, rest, turn, h1, h2, h3, h4, h5, h6⟩ := drw_slot ok e
  rcases hk with rfl | rfl
  · refine ⟨.ref d, hsl, d, .int rest, rfl, ?_, k (.int rest) _ S H (hm rest h5) ok (Ex.rf _) (ri _ _)⟩
    exact DGet.k (k := .inr "rest") h1
  · refine ⟨.ref d, hsl, d, .int turn, rfl, ?_, k (.int turn) _ S H (hm turn h6) ok (Ex.rf _) (ri _ _)⟩
    exact DGet.k (k := .inr "turn") h1
theorem de_dcells (c : CxK T n X g E) (hN : X.N[i]? = some x := by rfl) (hv : Vis X.env.scope x := by first | exact Or.inl rfl | exact Or.inr (Or.inl rfl) | exact Or.inr (Or.inr rfl)) (hd : (x == ("__debug__" : Str)) = false := by decide)
    (hcd : (x == ("__classdict__" : Str)) = false := by decide) (hs : NoSl (.Constant (.str "cells") j pc) := by intro _ _; rfl) : DE X g B E (.Subscript (.Name x px) (.Constant (.str "cells") j pc) pos) (eDc i) := by
  refine pe_imp (pe_dget c.un (pe_var (i := i) hN hv hd hcd) pe_str hs) fun σ H Q h => ?_
  obtain ⟨env, S, P, Z, ok, ⟨e, hm⟩, k, kx⟩ := h
  obtain ⟨d, b, cc, cells, hsl, hR, hc, hl, hn, hdw, big, rest, turn, h1, h2, h3, h4, h5, h6⟩ := drw_slot ok e
  refine ⟨.ref d, hsl, d, .ref cc, rfl, DGet.k (k := .inr "cells") h1, k (.lst (cells.map D.int)) _ S H (hm cells hl hn) ok (Ex.rf _) ?_⟩
  unfold Rep
  exact ⟨cc, _, rfl, ok.frm.kn _ _ hc, ints_rep cells⟩
/-- draw['rest'] = e, draw['turn'] = e -/
@[simp] def sDi (i : Nat) (ma : EM) : SM := fun env k => ma env (fun d => match d with
  | .int z => 0 ≤ z ∧ env[i]? = some (.sh .drw) ∧ k.nx env
  | _ => False) k.er
theorem ds_dint {key : Str} {value : Expr} {ma : EM} (hk : key = "rest" ∨ key = "turn") (c : CxK T n X g E) (ha : DE X g B E value ma) (hN : X.N[i]? = some x := by rfl) (hv : Vis X.env.scope x := by first | exact Or.inl rfl | exact Or.inr (Or.inl rfl) | exact Or.inr (Or.inr rfl))
    (hd : (x == ("__debug__" : Str)) = false := by decide) (hcd : (x == ("__classdict__" : Str)) = false := by decide) (hs : swapsWith value (some (.Subscript (.Name x px) (.Constant (.str key) j pc) pos')) pos.line X.env = pure false := by rfl) :
    DS X g B E (.Assign [.Subscript (.Name x px) (.Constant (.str key) j pc) pos'] value pos) (sDi i ma) := by
  refine ps_imp (ps_dput c.un (pe_var (i := i) hN hv hd hcd) pe_str ha hs) fun De σ H h => ?_
  obtain ⟨env, S, k, ok, hm, kk⟩ := h
  refine ⟨env, S, _, _, ok, hm, fun d v S' H' q ok' ex r => ?_, kk.er⟩
  cases d with
  | int z =>
    unfold Rep at r
    subst r
    obtain ⟨h0, e, q⟩ := q
    obtain ⟨d, b, cc, cells, hsl, hR, hc, hl, hn, hdw, big, rest, turn, h1, h2, h3, h4, h5, h6⟩ := drw_slot ok' e
    have hne : b ≠ d := fun w => by
      rw [w, h1] at h2
      cases h2
    rcases hk with rfl | rfl
    · refine ⟨.ref d, hsl, d, _, rfl, DPut.k (k := .inr "rest") h1 (by rw [sizeLine_eq]; show 4 < 16777216; omega), ?_⟩
      refine kk.nx env S' σ _ q (ok'.reg (by rw [hR]; simp) h1 (fun ps w => by cases w) (fun φ w => by cases w) ((hdw _).mpr ⟨big, z, turn, upd_same, ?_, h3, h4, h0, h6⟩)) ex
      rw [upd_ne hne]
      exact h2
    · refine ⟨.ref d, hsl, d, _, rfl, DPut.k (k := .inr "turn") h1 (by rw [sizeLine_eq]; show 4 < 16777216; omega), ?_⟩
      refine kk.nx env S' σ _ q (ok'.reg (by rw [hR]; simp) h1 (fun ps w => by cases w) (fun φ w => by cases w) ((hdw _).mpr ⟨big, rest, z, upd_same, ?_, h3, h4, h5, h0⟩)) ex
      rw [upd_ne hne]
      exact h2
  | _ => exact q.elim

theorem dp_ints {K : PySem.W.Frag} {H : Hp} : ∀ l : List Int, DpAll K H (l.map V.int) (l.map PyData.int)
  | [] => .nil
  | i :: l => .cons (.int i) (dp_ints l)
theorem lay_ints : ∀ l : List Int, PyData.canLayAll0 (l.map PyData.int) = true
  | [] => rfl
  | i :: l => by
    rw [List.map_cons]
    unfold PyData.canLayAll0
    rw [lay_ints l]
    rfl
theorem deep_ints : ∀ l : List Int, PyData.depthAll (l.map PyData.int) = 0
  | [] => rfl
  | i :: l => by
    rw [List.map_cons]
    unfold PyData.depthAll
    rw [deep_ints l]
    rfl
/-- draw['large'].pop(0) if draw['large'] != [] else mixed(draw) -/
theorem de_dnext {y : Str} {st : Stmt} {ps : List Str} {k : Nat} (c : CxK T n X g E) (hk : k ≤ n) (Fm : FnD X.prog X.w X.K X.mg X.base T k y st ps (fun ds P _ => ds = [.drw] ∧ ∀ z : Int, 0 ≤ z → P (.int z))) (hgy : Gl X y) (hps : ps.length = 1) (hN : X.N[i]? = some x := by rfl)
    (hv : Vis X.env.scope x := by first | exact Or.inl rfl | exact Or.inr (Or.inl rfl) | exact Or.inr (Or.inr rfl)) (hd : (x == ("__debug__" : Str)) = false := by decide) (hcd : (x == ("__classdict__" : Str)) = false := by decide) (hdy : (y == ("__debug__" : Str)) = false := by decide)
    (hm : behindInMarks .NotEq (.List [] p2) = false := by first | exact nomark _ (by decide) (by decide) | rfl) (hs : NoSl (.Constant (.str "large") j pc) := by intro _ _; rfl) (hs2 : NoSl (.Constant (.str "large") j3 qc) := by intro _ _; rfl)
    (hb : attributeBase (.Subscript (.Name x qx) (.Constant (.str "large") j3 qc) q2) "pop" X.env (eval (.Subscript (.Name x qx) (.Constant (.str "large") j3 qc) q2) X.env) = eval (.Subscript (.Name x qx) (.Constant (.str "large") j3 qc) q2) X.env := by rfl)
    (hline : (apos.endLine == cpos.line) = true := by rfl) :
    DE X g B E (.IfExp (.Compare (.Subscript (.Name x px) (.Constant (.str "large") j pc) pos') [.NotEq] [.List [] p2] p3) (.Call (.Attribute (.Subscript (.Name x qx) (.Constant (.str "large") j3 qc) q2) "pop" apos) [.Constant (.int 0) j2 p4] [] cpos) (.Call (.Name y pa) [.Name x p5] [] p6) pos) (eDi i) := by
  have hu : X.A.units + 64 < cLine := by
    have := c.room.un
    omega
  have hcall := de_call (B := B) (p := pa) (pos := p6) Fm c hk hgy (da_cons (de_var (i := i) (pos := p5) hN hv hd hcd) da_nil rfl) hdy
  have hlg := pe_dget (pos := pos') c.un (pe_var (X := X) (pos := px) (i := i) hN hv hd hcd) (pe_str (X := X) (x := "large") (j := j) (pos := pc)) hs
  have hlg2 := pe_dget (pos := q2) c.un (pe_var (X := X) (pos := qx) (i := i) hN hv hd hcd) (pe_str (X := X) (x := "large") (j := j3) (pos := qc)) hs2
  refine pe_imp (pe_ifExp (pt_cmpR (op_neD hu) hlg (pe_lst pa_nil) hm)
    (pe_bm (T := "list") (id := "list.pop") PySem.F.plainAttrs_list PySem.F.slot_list_pop PySem.F.type_list_pop mt_popAt hlg2 (pa_cons pe_int pa_nil rfl) hb (by rfl) hline (by rfl) (by rfl)) hcall) fun σ H Q h => ?_
  obtain ⟨env, S, P, Z, ok, ⟨e, hq⟩, kq, kx⟩ := h
  obtain ⟨d, b, cc, cells, hsl, hR, hc, hl, hn, hdw, big, rest, turn, h1, h2, h3, h4, h5, h6⟩ := drw_slot ok e
  refine ⟨.ref d, hsl, d, .ref b, rfl, DGet.k (k := .inr "large") h1, by rw [sizeLine_eq]; show 0 ≤ 16777216; omega, fun p hp => ?_⟩
  have nw := New.hid (o := .lst []) ok.frm.le hp
  have ok1 := ok.new nw
  refine ⟨.list (big.map .int), .list [], .lst (SqL.of (nw.hh _ _ h2)) (dp_ints big), .lst (SqL.of upd_same) .nil, ?_, by rfl, _, rfl, ?_⟩
  · unfold SeqAt.shaped PyData.canLay0 PyData.depth
    rw [lay_ints, deep_ints]
    rfl
  cases big with
  | nil =>
    show (if (!PyData.eqv (.list []) (.list [])) = true then _ else _)
    rw [if_neg (by decide)]
    exact ⟨env, S, P, Z, ok1, by
      unfold eF aCons eVar aNil
      rw [e]
      exact ⟨by rw [hps]; rfl, rfl, hq⟩, kq, kx⟩
  | cons z big =>
    show (if (!PyData.eqv (.list (.int z :: _)) (.list [])) = true then _ else _)
    rw [if_pos (by rfl)]
    have hz : 0 ≤ z := h4 z List.mem_cons_self
    refine ⟨.ref d, hsl, d, .ref b, rfl, DGet.k (k := .inr "large") (nw.hh _ _ h1), .inl ⟨rfl, _, SqL.of (nw.hh _ _ h2)⟩, b, _, 0, 0, .int z, rfl, rfl, nw.hh _ _ h2, by decide, by decide, ?_, rfl, ?_⟩
    · unfold seqIndex?
      simp
    · refine kq (.int z) _ S _ (hq z hz) (ok1.reg (by rw [hR]; simp) (nw.hh _ _ h2) (fun ps w => by cases w) (fun φ w => by cases w) ((hdw _).mpr ⟨big, rest, turn, ?_, upd_same, ?_, fun w hw => h4 w (List.mem_cons_of_mem _ hw), h5, h6⟩)) (Ex.rf _) (ri _ _)
      · rw [upd_ne (fun w => by rw [w, h2] at h1; cases h1)]
        exact nw.hh _ _ h1
      · rw [List.length_cons] at h3
        omega
end
end DL

set_option Elab.async false
set_option linter.all false
set_option maxRecDepth 100000
set_option maxHeartbeats 2000000
/-! DW: rules in the form that the printed derivations use. -/
namespace DL
open PySem PySem.Spec PyProof.Rows L2

/-- a def of the module, as it stands behind the top -/
structure DefF (K : PySem.W.Frag) (mg : Str → Option Value) (x : Str) (st : Stmt) : Prop where
  ex : ∃ f fd, mg x = some (.ref f) ∧ Fun K x x st f fd
theorem def_mk {K : PySem.W.Frag} {mg : Str → Option Value} {h : Heap} {x : Str} {st : Stmt} {f : Addr} {oc : Value} {od an : Option Addr} {osl : Array (Option Value)} {kV doc pm cdv ct : Value} (X : K.In h) (G : h.Ns mainGlobals mg) (a : PySem.W.nsIn K mainGlobals x = some (some (.ref f)))
    (l : K.lookup f = some ⟨oc, od, .func (PySem.W.fnOf x x (defArgs st) (defBody st) (defScope st) .none kV doc pm an cdv ct), osl⟩) (c : PySem.W.codeIn K cdv x = true) (k : PySem.W.keepIn K (.ref f) = true) : DefF K mg x st := ⟨f, _, PySem.W.mg_of X G a, fun_mk l c k⟩
section
variable {P : Program} {w : World} {K : PySem.W.Frag} {mg : Str → Option Value} {base : Heap} {T : List (Addr × Str)}
/-- a def whose body keeps the computation m does G, where G's wish is m's -/
theorem fnD_mk {x : Str} {st : Stmt} {N ps : List Str} {k : Nat} {m : SM} {G : List D → W D} (d : DefF K mg x st) (Sc : FnScope N ps (defScope st))
    (hb : ∀ (kV doc pm : Value) (an : Option Addr) (cdv ct : Value) (us : List Value), us.length = ps.length → bindArgs (PySem.W.fnOf x x (defArgs st) (defBody st) (defScope st) .none kV doc pm an cdv ct) ⟨us, []⟩ = pure (ps.zip us))
    (hbody : ∀ (f : Addr) (cdv : Value) (A : Around) (outer : List Env) (s : Shared) (H : Hp) (E : XK) (g : Gd) (B : Hp × Hp), CxK T k (cxOf (L2.CX P w) P w K mg base N x (defScope st) f cdv A outer s H E) g E →
      DSs (cxOf (L2.CX P w) P w K mg base N x (defScope st) f cdv A outer s H E) g B E (defBody st) m) (i : ∀ ds P Z, G ds P Z → fnW N.length ps.length m ds P Z) : FnD P w K mg base T (k + 1) x st ps G := by
  obtain ⟨f, fd, h1, h2⟩ := d.ex
  exact (fnD_of h2 Sc h1 (h2.binds hb) (hbody f)).imp i
end
section
variable {X : Cx} {g : Gd} {B : Hp × Hp} {E : XK} {T : List (Addr × Str)} {n : Nat} {a b c : Expr} {es : List Expr} {ma mb mc : EM} {ml : Ev → W (List D)} {p pos : Pos}
theorem CxK.u64 (c : CxK T n X g E) : X.A.units + 64 < cLine := by
  have := c.room.un
  omega
theorem CxK.u65 (c : CxK T n X g E) : X.A.units + 65 < cLine := by
  have := c.room.un
  omega
theorem CxK.u200 (c : CxK T n X g E) : X.A.units + 200 < cLine := by
  have := c.room.un
  omega
theorem CxK.lam {T : List (Addr × Str)} {n : Nat} {X : Cx} {g : Gd} {E : XK} (c : CxK T n X g E) : CxK T n X g E := c
/-- a def, a class of the module as a value -/
theorem dv_fn {x : Str} {st : Stmt} (d : DefF X.K X.mg x st) (hg : Gl X x) (hd : (x == ("__debug__" : Str)) = false := by decide) : DE X g B E (.Name x pos) (eC (.fn x)) := by
  obtain ⟨f, fd, h1, h2⟩ := d.ex
  exact de_fn hg h1 hd
theorem dv_cls {x : Str} {C : Addr} (hm : X.mg x = some (.ref C)) (hg : Gl X x) (hd : (x == ("__debug__" : Str)) = false := by decide) : DE X g B E (.Name x pos) (eC (.fn x)) := de_fn hg hm hd
/-- a built-in type as a value -/
theorem dv_ty {x : Str} {t : String} (hm : X.mg x = none) (hg : Gl X x) (hv : bootBuiltins x = some (.type t)) (hn : x ≠ "__name__" := by decide) (hd : (x == ("__debug__" : Str)) = false := by decide) : DE X g B E (.Name x pos) (eC (.ty t)) :=
  de_c (pe_bltn (v := .ty t) hg hm hv rfl hn hd) fun S => by unfold Rep; rfl
theorem boot1 : bootBuiltins "int" = some (.type "int") := by decide +kernel
theorem boot2 : bootBuiltins "bool" = some (.type "bool") := by decide +kernel
theorem boot3 : bootBuiltins "tuple" = some (.type "tuple") := by decide +kernel
theorem boot4 : bootBuiltins "list" = some (.type "list") := by decide +kernel
theorem boot5 : bootBuiltins "str" = some (.type "str") := by decide +kernel
theorem boot6 : bootBuiltins "dict" = some (.type "dict") := by decide +kernel
theorem boot7 : bootBuiltins "len" = some (.builtin "len") := by decide +kernel
theorem boot8 : bootBuiltins "sum" = some (.builtin "sum") := by decide +kernel
theorem boot9 : bootBuiltins "any" = some (.builtin "any") := by decide +kernel
theorem boot10 : bootBuiltins "all" = some (.builtin "all") := by decide +kernel
theorem boot11 : bootBuiltins "min" = some (.builtin "min") := by decide +kernel
theorem boot12 : bootBuiltins "max" = some (.builtin "max") := by decide +kernel
theorem boot13 : bootBuiltins "abs" = some (.builtin "abs") := by decide +kernel
theorem boot14 : bootBuiltins "repr" = some (.builtin "repr") := by decide +kernel
theorem boot15 : bootBuiltins "isinstance" = some (.builtin "isinstance") := by decide +kernel
theorem db_len (hm : X.mg "len" = none) (hg : Gl X "len") (ha : DAr X g B E (a :: es) ml) (hst : noStar (a :: es) = true := by rfl) : DE X g B E (.Call (.Name "len" p) (a :: es) [] pos) (eA bLen ml) :=
  de_b call_len blen_ok hg hm boot7 ha (hst := hst)
theorem db_sum (c : CxK T n X g E) (hm : X.mg "sum" = none) (hg : Gl X "sum") (ha : DAr X g B E (a :: es) ml) (hst : noStar (a :: es) = true := by rfl) : DE X g B E (.Call (.Name "sum" p) (a :: es) [] pos) (eA bSum ml) :=
  de_b (cr_sum c.calm) bsum_ok hg hm boot8 ha (hst := hst)
theorem db_any (c : CxK T n X g E) (hm : X.mg "any" = none) (hg : Gl X "any") (ha : DAr X g B E (a :: es) ml) (hst : noStar (a :: es) = true := by rfl) : DE X g B E (.Call (.Name "any" p) (a :: es) [] pos) (eA bAny ml) :=
  de_b (cr_any c.calm) bany_ok hg hm boot9 ha (hst := hst)
theorem db_all (c : CxK T n X g E) (hm : X.mg "all" = none) (hg : Gl X "all") (ha : DAr X g B E (a :: es) ml) (hst : noStar (a :: es) = true := by rfl) : DE X g B E (.Call (.Name "all" p) (a :: es) [] pos) (eA bAll ml) :=
  de_b (cr_all c.calm) ball_ok hg hm boot10 ha (hst := hst)
theorem db_min (c : CxK T n X g E) (hm : X.mg "min" = none) (hg : Gl X "min") (ha : DAr X g B E (a :: es) ml) (hst : noStar (a :: es) = true := by rfl) : DE X g B E (.Call (.Name "min" p) (a :: es) [] pos) (eA bMin2 ml) :=
  de_b (call_min2 c.calm) bmin2_ok hg hm boot11 ha (hst := hst)
theorem db_max (c : CxK T n X g E) (hm : X.mg "max" = none) (hg : Gl X "max") (ha : DAr X g B E (a :: es) ml) (hst : noStar (a :: es) = true := by rfl) : DE X g B E (.Call (.Name "max" p) (a :: es) [] pos) (eA bMax2 ml) :=
  de_b (call_max2 c.calm) bmax2_ok hg hm boot12 ha (hst := hst)
theorem db_abs (hm : X.mg "abs" = none) (hg : Gl X "abs") (ha : DAr X g B E (a :: es) ml) (hst : noStar (a :: es) = true := by rfl) : DE X g B E (.Call (.Name "abs" p) (a :: es) [] pos) (eA bAbs ml) :=
  de_b call_abs babs_ok hg hm boot13 ha (hst := hst)
theorem db_repr (c : CxK T n X g E) (hm : X.mg "repr" = none) (hg : Gl X "repr") (ha : DAr X g B E (a :: es) ml) (hst : noStar (a :: es) = true := by rfl) : DE X g B E (.Call (.Name "repr" p) (a :: es) [] pos) (eA bRpr ml) :=
  de_b (call_rpr c.gd c.u200) brpr_ok hg hm boot14 ha (hst := hst)
theorem db_isi {ko : String → Str → Option Bool} {ke : Str → Str → Option Bool} (hf : OpA X g (bIsi ko ke) (fun xs H Q => rIsi X.K xs H Q ∨ rIsX X.K xs H Q)) (hm : X.mg "isinstance" = none) (hg : Gl X "isinstance") (ha : DAr X g B E (a :: es) ml)
    (hst : noStar (a :: es) = true := by rfl) : DE X g B E (.Call (.Name "isinstance" p) (a :: es) [] pos) (eA (bIsi ko ke) ml) := de_b op_isi hf hg hm boot15 ha (hst := hst)
theorem db_int (hm : X.mg "int" = none) (hg : Gl X "int") (ha : DAr X g B E (a :: es) ml) (hst : noStar (a :: es) = true := by rfl) : DE X g B E (.Call (.Name "int" p) (a :: es) [] pos) (eA bInt2 ml) :=
  de_ty call_int2 bint2_ok hg hm boot1 ha (hst := hst)
theorem db_tuple (hm : X.mg "tuple" = none) (hg : Gl X "tuple") (ha : DAr X g B E (a :: es) ml) (hst : noStar (a :: es) = true := by rfl) : DE X g B E (.Call (.Name "tuple" p) (a :: es) [] pos) (eA bTup ml) :=
  de_ty call_tuple_of btup_ok hg hm boot3 ha (hst := hst)
theorem db_list (hm : X.mg "list" = none) (hg : Gl X "list") (ha : DAr X g B E (a :: es) ml) (hst : noStar (a :: es) = true := by rfl) : DE X g B E (.Call (.Name "list" p) (a :: es) [] pos) (eA bLst ml) :=
  de_ty call_list_of blst_ok hg hm boot4 ha (hst := hst)
theorem de_tim (ha : DE X g B E a ma) (hb : DE X g B E b mb) : DE X g B E (.BinOp a .Mult b pos) (e2 dTim ma mb) := de_op op_tim dtim_ok ha hb
theorem dc_lt (ha : DE X g B E a ma) (hb : DE X g B E b mb) (hm : behindInMarks .Lt b = false := by first | exact nomark _ (by decide) (by decide) | rfl) : DE X g B E (.Compare a [.Lt] [b] pos) (e2 dLt ma mb) := de_cmp op_lt dlt_ok ha hb hm
theorem dc_le (ha : DE X g B E a ma) (hb : DE X g B E b mb) (hm : behindInMarks .LtE b = false := by first | exact nomark _ (by decide) (by decide) | rfl) : DE X g B E (.Compare a [.LtE] [b] pos) (e2 dLe ma mb) := de_cmp op_le dle_ok ha hb hm
theorem dc_gt (ha : DE X g B E a ma) (hb : DE X g B E b mb) (hm : behindInMarks .Gt b = false := by first | exact nomark _ (by decide) (by decide) | rfl) : DE X g B E (.Compare a [.Gt] [b] pos) (e2 dGt ma mb) := de_cmp op_gt dgt_ok ha hb hm
theorem dc_ge (ha : DE X g B E a ma) (hb : DE X g B E b mb) (hm : behindInMarks .GtE b = false := by first | exact nomark _ (by decide) (by decide) | rfl) : DE X g B E (.Compare a [.GtE] [b] pos) (e2 dGe ma mb) := de_cmp op_ge dge_ok ha hb hm
theorem dc_eq (c : CxK T n X g E) (ha : DE X g B E a ma) (hb : DE X g B E b mb) (hm : behindInMarks .Eq b = false := by first | exact nomark _ (by decide) (by decide) | rfl) : DE X g B E (.Compare a [.Eq] [b] pos) (e2 dEq ma mb) := de_cmp (op_eqE c.u64) deq_ok ha hb hm
theorem dc_ne (c : CxK T n X g E) (ha : DE X g B E a ma) (hb : DE X g B E b mb) (hm : behindInMarks .NotEq b = false := by first | exact nomark _ (by decide) (by decide) | rfl) : DE X g B E (.Compare a [.NotEq] [b] pos) (e2 dNe ma mb) := de_cmp (op_neE c.u64) dne_ok ha hb hm
theorem dc_is (ha : DE X g B E a ma) (hb : DE X g B E b mb) (hm : behindInMarks .Is b = false := by first | exact nomark _ (by decide) (by decide) | rfl) : DE X g B E (.Compare a [.Is] [b] pos) (e2 dIs ma mb) := de_cmp op_isN dis_ok ha hb hm
theorem dc_ns (ha : DE X g B E a ma) (hb : DE X g B E b mb) (hm : behindInMarks .IsNot b = false := by first | exact nomark _ (by decide) (by decide) | rfl) : DE X g B E (.Compare a [.IsNot] [b] pos) (e2 dNs ma mb) := de_cmp op_notN dns_ok ha hb hm
theorem dc_in (c : CxK T n X g E) (ha : DE X g B E a ma) (hb : DE X g B E b mb) (hm : behindInMarks .In b = false := by first | exact nomark _ (by decide) (by decide) | rfl) : DE X g B E (.Compare a [.In] [b] pos) (e2 dIn ma mb) := de_cmp (op_inD c.u65) din_ok ha hb hm
theorem dc_ni (c : CxK T n X g E) (ha : DE X g B E a ma) (hb : DE X g B E b mb) (hm : behindInMarks .NotIn b = false := by first | exact nomark _ (by decide) (by decide) | rfl) : DE X g B E (.Compare a [.NotIn] [b] pos) (e2 dNi ma mb) := de_cmp (op_notInD c.u65) dni_ok ha hb hm
theorem dt_lt (ha : DE X g B E a ma) (hb : DE X g B E b mb) (hm : behindInMarks .Lt b = false := by first | exact nomark _ (by decide) (by decide) | rfl) : DT X g B E (.Compare a [.Lt] [b] pos) (tBo (e2 dLt ma mb)) := dt_cmp op_lt dlt_ok ha hb hm
theorem dt_le (ha : DE X g B E a ma) (hb : DE X g B E b mb) (hm : behindInMarks .LtE b = false := by first | exact nomark _ (by decide) (by decide) | rfl) : DT X g B E (.Compare a [.LtE] [b] pos) (tBo (e2 dLe ma mb)) := dt_cmp op_le dle_ok ha hb hm
theorem dt_gt (ha : DE X g B E a ma) (hb : DE X g B E b mb) (hm : behindInMarks .Gt b = false := by first | exact nomark _ (by decide) (by decide) | rfl) : DT X g B E (.Compare a [.Gt] [b] pos) (tBo (e2 dGt ma mb)) := dt_cmp op_gt dgt_ok ha hb hm
theorem dt_ge (ha : DE X g B E a ma) (hb : DE X g B E b mb) (hm : behindInMarks .GtE b = false := by first | exact nomark _ (by decide) (by decide) | rfl) : DT X g B E (.Compare a [.GtE] [b] pos) (tBo (e2 dGe ma mb)) := dt_cmp op_ge dge_ok ha hb hm
theorem dt_eq (c : CxK T n X g E) (ha : DE X g B E a ma) (hb : DE X g B E b mb) (hm : behindInMarks .Eq b = false := by first | exact nomark _ (by decide) (by decide) | rfl) : DT X g B E (.Compare a [.Eq] [b] pos) (tBo (e2 dEq ma mb)) := dt_cmp (op_eqE c.u64) deq_ok ha hb hm
theorem dt_ne (c : CxK T n X g E) (ha : DE X g B E a ma) (hb : DE X g B E b mb) (hm : behindInMarks .NotEq b = false := by first | exact nomark _ (by decide) (by decide) | rfl) : DT X g B E (.Compare a [.NotEq] [b] pos) (tBo (e2 dNe ma mb)) := dt_cmp (op_neE c.u64) dne_ok ha hb hm
theorem dt_is (ha : DE X g B E a ma) (hb : DE X g B E b mb) (hm : behindInMarks .Is b = false := by first | exact nomark _ (by decide) (by decide) | rfl) : DT X g B E (.Compare a [.Is] [b] pos) (tBo (e2 dIs ma mb)) := dt_cmp op_isN dis_ok ha hb hm
theorem dt_ns (ha : DE X g B E a ma) (hb : DE X g B E b mb) (hm : behindInMarks .IsNot b = false := by first | exact nomark _ (by decide) (by decide) | rfl) : DT X g B E (.Compare a [.IsNot] [b] pos) (tBo (e2 dNs ma mb)) := dt_cmp op_notN dns_ok ha hb hm
theorem dt_in (c : CxK T n X g E) (ha : DE X g B E a ma) (hb : DE X g B E b mb) (hm : behindInMarks .In b = false := by first | exact nomark _ (by decide) (by decide) | rfl) : DT X g B E (.Compare a [.In] [b] pos) (tBo (e2 dIn ma mb)) := dt_cmp (op_inD c.u65) din_ok ha hb hm
theorem dt_ni (c : CxK T n X g E) (ha : DE X g B E a ma) (hb : DE X g B E b mb) (hm : behindInMarks .NotIn b = false := by first | exact nomark _ (by decide) (by decide) | rfl) : DT X g B E (.Compare a [.NotIn] [b] pos) (tBo (e2 dNi ma mb)) := dt_cmp (op_notInD c.u65) dni_ok ha hb hm

theorem pa_any {ι : Type} {es : List Expr} {t : ι → TA} (h : ∀ i, PA X es (t i)) : PA X es (fun σ H Q => ∃ i, t i σ H Q) := ⟨fun p pins s σ H Q I ⟨i, q⟩ => (h i).run p pins s σ H Q I q⟩
/-- x, .. = [], e, .. : x alone holds the new list -/
@[simp] def sPo (i : Nat) (js : List Nat) (ml : Ev → W (List D)) : SM := fun env k => ml (env.map noOwn) (fun ds => match js, ds with
  | [j], [b] => k.nx ((env.set i (.own [])).set j (.sh b))
  | [j, l], [b, c] => k.nx (((env.set i (.own [])).set j (.sh b)).set l (.sh c))
  | _, _ => False) k.er
/-- the list stands, whatever is made behind it -/
theorem po_take {env : Ev} {S S' H H' : Hp} {σ : L2.St} {q : Addr} (i : Nat) (ok : Ok X.K X.mg g B env S σ H) (hq : H q = none) (f : Frm g S (upd H q (.lst [])) S' H') : Ok X.K X.mg g B (env.set i (.own [])) S' (σ.set i (some (.ref q))) H' := by
  have nR := notR ok.frm.dw hq
  have ok1 := ok.new (New.hid (o := .lst []) ok.frm.le hq)
  have hl := f.fr q _ upd_same nR (fun ps z => by cases z)
  have hs : S' q = none := f.keepN (ok.frm.le.none hq) upd_same .lst
  refine (ok1.call f).take i hs (ok.frm.al _ hq) nR hl Reps.nil fun j b m e1 o1 e2 w => ?_
  obtain ⟨b', u, w1, w2, w3, w4, w5, w6⟩ := (ok.slots j _ e1).at_ o1
  rw [e2] at w1
  have w7 : b = b' := by simpa using w1
  rw [← w7, w, hq] at w5
  cases w5
theorem ds_p3o {i j l : Nat} {x y z : Str} {px py pz pt : Pos} {kt k2 : Nat} {pt2 p2 : Pos} (hc : X.calm = true) (hN : X.N.Nodup) (hr : ∀ B', DAr X g B' E [b, c] ml) (hi : X.N[i]? = some x := by rfl) (hj : X.N[j]? = some y := by rfl) (hl : X.N[l]? = some z := by rfl)
    (hij : i ≠ j := by decide) (hil : i ≠ l := by decide) (hjl : j ≠ l := by decide) (hx : X.env.scope.names.lookup x = some .local := by rfl) (hy : X.env.scope.names.lookup y = some .local := by rfl) (hz : X.env.scope.names.lookup z = some .local := by rfl)
    (hw : swappedStores [.Tuple [.Name x px, .Name y py, .Name z pz] kt pt] (.Tuple [.List [] p2, b, c] k2 pt2) X.env = pure (some [x, y, z]) := by rfl)
    (hs : swapsWithSole [.Tuple [.Name x px, .Name y py, .Name z pz] kt pt] (.Tuple [.List [] p2, b, c] k2 pt2) pos.line X.env = pure false := by rfl)
    : DS X g B E (.Assign [.Tuple [.Name x px, .Name y py, .Name z pz] kt pt] (.Tuple [.List [] p2, b, c] k2 pt2) pos) (sPo i [j, l] ml) :=
  ps_imp (ps_par3 (i := i) (j := j) (l := l) hc hN hi hj hl hij hil hjl hx hy hz (pa_cons (pe_lst pa_nil) (pa_any (t := fun B1 => cloA X g B1 E ml) hr) (st_one rfl)) hw hs) fun De σ H h => by
    obtain ⟨env, S, k, ok, hm, kk⟩ := h
    refine ⟨by rw [sizeLine_eq]; show 0 ≤ 16777216; omega, fun q hq => ?_⟩
    have ok1 := ok.new (New.hid (o := .lst []) ok.frm.le hq)
    refine ⟨(S, _), env.map noOwn, S, _, k.er, ok1.noOwn, hm, fun ds vs S' H' p ok' ex r => ?_, fun x cls dx S' H' q2 f2 rx => kk.er x cls dx S' H' q2 (ok1.frm.tr f2) rx⟩
    match ds, p with
    | [d1, d2], p =>
      obtain ⟨v1, v2, rfl, r1, r2⟩ := rep2 r
      exact ⟨.ref q, v1, v2, rfl, kk.nx _ S' _ H' p (((po_take i ok hq ok'.frm).set j r1).set l r2) ex⟩
theorem ds_p2o {i j : Nat} {x y : Str} {px py pt : Pos} {kt k2 : Nat} {pt2 p2 : Pos} (hc : X.calm = true) (hN : X.N.Nodup) (hr : ∀ B', DAr X g B' E [b] ml) (hi : X.N[i]? = some x := by rfl) (hj : X.N[j]? = some y := by rfl) (hij : i ≠ j := by decide)
    (hx : X.env.scope.names.lookup x = some .local := by rfl) (hy : X.env.scope.names.lookup y = some .local := by rfl)
    (hw : swappedStores [.Tuple [.Name x px, .Name y py] kt pt] (.Tuple [.List [] p2, b] k2 pt2) X.env = pure (some [x, y]) := by rfl)
    (hs : swapsWithSole [.Tuple [.Name x px, .Name y py] kt pt] (.Tuple [.List [] p2, b] k2 pt2) pos.line X.env = pure false := by rfl)
    : DS X g B E (.Assign [.Tuple [.Name x px, .Name y py] kt pt] (.Tuple [.List [] p2, b] k2 pt2) pos) (sPo i [j] ml) :=
  ps_imp (ps_par (i := i) (j := j) hc hN hi hj hij hx hy (pa_cons (pe_lst pa_nil) (pa_any (t := fun B1 => cloA X g B1 E ml) hr) (st_one rfl)) hw hs) fun De σ H h => by
    obtain ⟨env, S, k, ok, hm, kk⟩ := h
    refine ⟨by rw [sizeLine_eq]; show 0 ≤ 16777216; omega, fun q hq => ?_⟩
    have ok1 := ok.new (New.hid (o := .lst []) ok.frm.le hq)
    refine ⟨(S, _), env.map noOwn, S, _, k.er, ok1.noOwn, hm, fun ds vs S' H' p ok' ex r => ?_, fun x cls dx S' H' q2 f2 rx => kk.er x cls dx S' H' q2 (ok1.frm.tr f2) rx⟩
    match ds, p with
    | [d1], p =>
      obtain ⟨v1, rfl, r1⟩ := rep1 r
      exact ⟨.ref q, v1, rfl, kk.nx _ S' _ H' p ((po_take i ok hq ok'.frm).set j r1) ex⟩
end
end DL

set_option Elab.async false
set_option linter.all false
set_option maxRecDepth 100000
set_option maxHeartbeats 2000000
/-! DH: the law's call: what stands at its start, what is left behind its end. -/
namespace DL
open PySem PySem.Spec PyProof.Rows L2

/-- what is tracked at the law's call: the tables of code objects; the script's list, unless the top knows it -/
def startH (ts : List Addr) (a : Addr) (known : Bool) (ob : Obj) (l : List V) : Hp := fun b => if b ∈ ts then some (.tbl #[]) else if b = a ∧ known = false then some (.frz ob (.lst l)) else none
section
variable {ts : List Addr} {a b : Addr} {known : Bool} {ob : Obj} {l : List V} {u : HO}
theorem startH_tab (h : b ∈ ts) : startH ts a known ob l b = some (.tbl #[]) := if_pos h
theorem startH_some (h : startH ts a known ob l b = some u) : (b ∈ ts ∧ u = .tbl #[]) ∨ (b ∉ ts ∧ b = a ∧ known = false ∧ u = .frz ob (.lst l)) := by
  unfold startH at h
  by_cases q : b ∈ ts
  · rw [if_pos q] at h
    exact .inl ⟨q, (Option.some.inj h).symm⟩
  · rw [if_neg q] at h
    by_cases z : b = a ∧ known = false
    · rw [if_pos z] at h
      exact .inr ⟨q, z.1, z.2, (Option.some.inj h).symm⟩
    · rw [if_neg z] at h
      cases h
theorem startH_at (h1 : a ∉ ts) (h2 : known = false) : startH ts a known ob l a = some (.frz ob (.lst l)) := (if_neg h1).trans (if_pos ⟨rfl, h2⟩)
end
/-- a law's promise at the start of its call -/
def LawG (l : PySem.W.OpenLaw) (w : World) (K : PySem.W.Frag) (k n : Nat) (x : Str) (mg : Str → Option Value) (fa : Addr) (h : Heap) : Prop :=
  ∃ (fd : FuncData) (cs : List (Addr × Addr)) (sp : Sp), (∀ p ∈ cs, h.get? p.2 = some { cls := .none, data := .fields #[] }) ∧ (∀ p ∈ cs, K.lookup p.2 = none) ∧ (∀ p ∈ cs, PySem.W.CodeHd h p.1 p.2) ∧ (∀ (s : Shared) (u : Value), BindsTo s fd ⟨[u], []⟩ [(x, u)]) ∧
    (∀ (a : Addr) (ns : List Int) (known : Bool) (ob : Obj), ns.length ≤ n → (∀ z ∈ ns, Builtin.Int.intBits z ≤ 1048576) → a ∉ cs.map Prod.snd → SqL K (startH (cs.map Prod.snd) a known ob (ns.map V.int)) a (ns.map V.int) →
      sp [.ref a] (startH (cs.map Prod.snd) a known ob (ns.map V.int)) (fun v _ => v = .bl true) fun _ _ _ => False) ∧
    ∀ base : Heap, K.In base → base.Ns mainGlobals mg → (∀ p ∈ cs, LamX.TabB base mg p.1 p.2) → FnG l.prog w K mg base k fa fd 1 [x] sp
section
variable {P : Program} {w : World} {K : PySem.W.Frag} {mg mb : Str → Option Value} {k : Nat} {fa a : Addr} {cs : List (Addr × Addr)} {fd : FuncData} {x : Str} {sp : Sp} {s1 : Shared} {us : List Value} {ns : List Int}
theorem end_run (hK : K.In s1.heap) (hG : s1.heap.Ns mainGlobals mg) (hB : s1.heap.Ns builtinsNs mb) (hB2 : ∀ y : Str, y ≠ "__name__" → mb y = bootBuiltins y) (hL : s1.heap.NoLimit) (hgen : s1.gens = #[])
    (tab : ∀ p ∈ cs, s1.heap.get? p.2 = some { cls := .none, data := .fields #[] }) (tabK : ∀ p ∈ cs, K.lookup p.2 = none) (code : ∀ p ∈ cs, PySem.W.CodeHd s1.heap p.1 p.2)
    (bmod : ∃ (bm : Addr) (ob : Obj), mg "__builtins__" = some (.ref bm) ∧ bm ≠ builtinsNs ∧ s1.heap.get? bm = some ob ∧ ob.cls = .type "module" ∧ ob.dict = some builtinsNs ∧ ob.data = .plain)
    (script : s1.heap.get? a = some { cls := .type "list", data := .seq us.toArray }) (hints : IntsAre us ns) (few : ns.length ≤ sizeLine) (room : Room k callerA)
    (F : ∀ base : Heap, K.In base → base.Ns mainGlobals mg → (∀ p ∈ cs, LamX.TabB base mg p.1 p.2) → FnG P w K mg base k fa fd 1 [x] sp) (bind : ∀ (s : Shared) (u : Value), BindsTo s fd ⟨[u], []⟩ [(x, u)])
    (start : ∀ (known : Bool) (ob : Obj), a ∉ cs.map Prod.snd → SqL K (startH (cs.map Prod.snd) a known ob (ns.map V.int)) a (ns.map V.int) → sp [.ref a] (startH (cs.map Prod.snd) a known ob (ns.map V.int)) (fun v _ => v = .bl true) fun _ _ _ => False) :
    codeAny (model P w) callerA (.call (.ref fa) ⟨[.ref a], []⟩) (fun r s' => r = .ok (.ret (.bool true)) ∧ OldK s1.heap s'.heap ∧ s'.os = s1.os ∧ AllBare s'.gens) s1 := by
  have ofTab : ∀ b ∈ cs.map Prod.snd, ∃ p ∈ cs, b = p.2 := fun b hb => let ⟨p, hp, e⟩ := List.mem_map.mp hb; ⟨p, hp, e.symm⟩
  have toTab : ∀ p ∈ cs, p.2 ∈ cs.map Prod.snd := fun p hp => List.mem_map.mpr ⟨p, hp, rfl⟩
  have tabAt : ∀ b ∈ cs.map Prod.snd, s1.heap.get? b = some { cls := .none, data := .fields #[] } := fun b hb => by
    obtain ⟨p, hp, rfl⟩ := ofTab b hb
    exact tab p hp
  have apart : a ∉ cs.map Prod.snd := fun z => by
    have e := tabAt a z
    rw [script] at e
    have e2 := congrArg Obj.data (Option.some.inj e)
    cases e2
  obtain ⟨known, hkn⟩ : ∃ known : Bool, known = (K.lookup a).isSome := ⟨_, rfl⟩
  obtain ⟨H, hH⟩ : ∃ H : Hp, H = startH (cs.map Prod.snd) a known { cls := .type "list", data := .seq us.toArray } (ns.map V.int) := ⟨_, rfl⟩
  have cse : ∀ b u, H b = some u → (b ∈ cs.map Prod.snd ∧ u = .tbl #[]) ∨ (b ∉ cs.map Prod.snd ∧ b = a ∧ known = false ∧ u = .frz { cls := .type "list", data := .seq us.toArray } (.lst (ns.map V.int))) := fun b u e => by
    rw [hH] at e
    exact startH_some e
  have rv := vals_ints hints
  have len := hints.length
  have seq : SqL K H a (ns.map V.int) := by
    cases hk : K.lookup a with
    | some o =>
      have e := hK a o hk
      rw [script] at e
      have e2 := Option.some.inj e
      subst e2
      exact .inr ⟨_, us.toArray, _, hk, rfl, rfl, rfl, by rw [List.size_toArray, len]; exact few, by simpa using rv⟩
    | none =>
      rw [hk] at hkn
      have e : H a = some (.frz { cls := .type "list", data := .seq us.toArray } (.lst (ns.map V.int))) := by
        rw [hH]
        exact startH_at apart hkn
      exact .inl (.inr ⟨_, e⟩)
  have hok : HOk P w H s1.heap := fun b u e => by
    rcases cse b u e with ⟨h1, rfl⟩ | ⟨_, rfl, _, rfl⟩
    · exact tabAt b h1
    · exact ⟨script, by rw [List.length_map]; exact few, us, _, rv, script⟩
  -- what is no list and no table is not tracked
  have out : ∀ {b : Addr} {o : Obj}, s1.heap.get? b = some o → (∀ zs n, o.data ≠ .seq zs n) → o.data ≠ .fields #[] → H b = none := fun {b o} e n1 n2 => by
    cases q : H b with
    | none => rfl
    | some u =>
      rcases cse b u q with ⟨h1, _⟩ | ⟨_, h2, _, _⟩
      · rw [tabAt b h1] at e
        have e2 := Option.some.inj e
        subst e2
        exact absurd rfl n2
      · rw [h2, script] at e
        have e2 := Option.some.inj e
        subst e2
        exact absurd rfl (n1 _ _)
  have space : ∀ {b : Addr} {m : Str → Option Value}, s1.heap.Ns b m → (hidT s1.heap H).Ns b m := fun {b m} ⟨o, es, ep, e, d, r⟩ =>
    ⟨o, es, ep, hidT_get e (out e (fun zs n z => by rw [d] at z; cases z) (fun z => by rw [d] at z; cases z)), d, r⟩
  have kin : K.In (hidT s1.heap H) := fun b o e => hidT_get (hK b o e) (by
    cases q : H b with
    | none => rfl
    | some u =>
      rcases cse b u q with ⟨h1, _⟩ | ⟨_, h2, h3, _⟩
      · obtain ⟨p, hp, h4⟩ := ofTab b h1
        rw [h4, tabK p hp] at e
        cases e
      · rw [h2] at e
        rw [e, h3] at hkn
        cases hkn)
  have modl : L2.Mod K mg (hidT s1.heap H) := ⟨kin, space hG, ⟨mb, space hB, hB2⟩, let ⟨mc, h1, h2⟩ := hL; ⟨mc, space h1, h2⟩⟩
  have tabs : ∀ p ∈ cs, LamX.TabB (hidT s1.heap H) mg p.1 p.2 := fun p hp => by
    have tp := tab p hp
    refine ⟨?_, ?_, fun z => ?_⟩
    · obtain ⟨o, zs, fi, tf, fl, tg, inF, tx, tt, e, r1, r2, r3, rest⟩ := code p hp
      exact ⟨o, zs, fi, tf, fl, tg, inF, tx, tt, hidT_get e (out e (fun ys n z => by rw [r2] at z; cases z) (fun z => by rw [r2] at z; cases z; simp at r3)), r1, r2, r3, rest⟩
    · obtain ⟨bm, ob, b1, b2, b3, b4, b5, b6⟩ := bmod
      refine ⟨bm, ob, b1, b2, fun q => ?_, fun q => ?_, hidT_get b3 (out b3 (fun zs n z => by rw [b6] at z; cases z) (fun z => by rw [b6] at z; cases z)), b4, b5, b6⟩
      · obtain ⟨o, es, ep, e, hd, _⟩ := hG
        rw [q, e] at b3
        have e2 := Option.some.inj b3
        subst e2
        rw [hd] at b6
        cases b6
      · rw [q, tp] at b3
        have e2 := Option.some.inj b3
        subst e2
        cases b6
    · obtain ⟨o, es, ep, e, hd, _⟩ := hG
      rw [z, tp] at e
      have e2 := Option.some.inj e
      subst e2
      cases hd
  have e0 : Env0 P w K mg (hidT s1.heap H) callerA [] s1 H := ⟨rfl, modl, fun b o e => of_hidT e, Nat.le_of_eq (hidT_size _ _), trivial, fun b hb => (by cases hb), hok, .of_eq hgen⟩
  have call := (F _ kin (space hG) tabs).run callerA [] s1 H ⟨[.ref a], []⟩ [.ref a] [.ref a] (fun v _ => v = .bl true) (fun _ _ _ => False) room rfl e0 (bind s1 (.ref a)) (.cons rfl .nil) (by
    rw [hH] at seq ⊢
    exact start _ _ apart seq)
  refine codeAny_mono call fun r s' hr => ?_
  match r, hr with
  | .error e, hr =>
    obtain ⟨_, _, _, _, _, _, _, _, _, _, _, _, z⟩ := hr
    exact z.elim
  | .ok (.ret u), hr =>
    obtain ⟨v, H', os, bare, un, hok', ru, ev⟩ := hr
    have ev2 : v = .bl true := ev
    subst ev2
    have eu : u = Value.bool true := ru
    subst eu
    have kept : ∀ b o, b ∉ cs.map Prod.snd → s1.heap.get? b = some o → s'.heap.get? b = some o := fun b o nb e => by
      cases q : H b with
      | none => exact un.keep b o e q (fun z => by cases z) (fun z => by cases z)
      | some u =>
        rcases cse b u q with ⟨h1, _⟩ | ⟨_, h2, _, h4⟩
        · exact absurd h1 nb
        · rw [h4] at q
          have z := (hok' b _ (un.frzs b _ _ q)).1
          rw [h2, script] at e
          rw [← e]
          exact z
    have grown : ∀ p ∈ cs, ∃ more : Array Value, s'.heap.get? p.2 = some { cls := .none, data := .fields more } := fun p hp => by
      obtain ⟨more, z⟩ := un.tbls p.2 #[] (by rw [hH]; exact startH_tab (toTab p hp))
      exact ⟨_, hok' p.2 _ z⟩
    refine ⟨rfl, ⟨fun b o e => ?_, fun b o e => ?_⟩, os, bare⟩
    · by_cases hb : b ∈ cs.map Prod.snd
      · obtain ⟨p, hp, rfl⟩ := ofTab b hb
        rw [tab p hp] at e
        have e2 := Option.some.inj e
        subst e2
        obtain ⟨more, hm⟩ := grown p hp
        exact .inr (.inl ⟨((code p hp).tab (tab p hp)).isCodeTable, rfl, #[], more, rfl, by rw [Array.empty_append]; exact hm⟩)
      · exact .inl (kept b o hb e)
    · by_cases hb : b ∈ cs.map Prod.snd
      · obtain ⟨p, hp, rfl⟩ := ofTab b hb
        obtain ⟨more, hm⟩ := grown p hp
        exact ⟨_, hm⟩
      · exact ⟨o, kept b o hb e⟩
end
/-- the end of a law -/
theorem law_end {l : PySem.W.OpenLaw} {n k : Nat} {q : Program} {loose : List Str} {XP : (Str → Option Value) → Heap → Prop} {YP : World → Heap → Prop} {d : DefRec} {x : Str} (hn : l.most = some n) (hn2 : n ≤ sizeLine) (hdf : d.params.defaults = []) (room : Room k callerA)
    (F : ∀ (w : World) (mg : Str → Option Value) (fa : Addr) (h : Heap), YP w h → h.Ns mainGlobals mg → mg d.name = some (.ref fa) → ∃ K : PySem.W.Frag, K.In h ∧ LawG l w K k n x mg fa h) : PySem.W.WalkO q loose XP YP l.row.toRowW d [] (fun f vs => PySem.call f vs) := by
  refine Att.attach_callB hn hdf fun w s0 s1 mg mb fa o pm cd doc a us ns gr yp ho hd hcd hmg hobj hints hlen hbits hg => ?_
  obtain ⟨K, hK, fd, cs, sp, tab, tabK, code, bind, start, F1⟩ := F w mg fa _ yp gr.T.g hmg
  exact end_run hK gr.T.g gr.T.b gr.T.builtins gr.T.nolimit hg tab tabK code gr.T.bmain hobj hints (Nat.le_trans hlen hn2) room F1 bind fun known ob ha hs => start a ns known ob hlen hbits ha hs
end DL

set_option Elab.async false
set_option linter.all false
set_option maxRecDepth 100000
set_option maxHeartbeats 2000000
/-! DF: the draws' start, the law's own body. -/
namespace DL
open PySem PySem.Spec PyProof.Rows L2
/-- at the law's start: no draws -/
def g0 (T : List (Addr × Str)) : Gd := ⟨T, [], fun _ => True, .non, fun _ => none, fun _ _ _ _ => trivial, fun _ _ a ha => by cases ha⟩
/-- the script is read, a dict of the draws is handed back -/
def spBg (K : PySem.W.Frag) (mg : Str → Option Value) (T : List (Addr × Str)) : Sp := fun vs H Q _ => ∃ (v : V) (l : List Int) (S : Hp), vs = [v] ∧ Rep K mg (g0 T) S (.scr l) v ∧ l.length ≤ 63 ∧ Frm (g0 T) S H S H ∧
  ∀ (g1 : Gd) (u : V) (S1 H1 : Hp), g1.T = T → Frm g1 S1 H1 S1 H1 → Ex S S1 → Rep K mg g1 S1 .drw u → Q u H1
@[simp] def m_bg1 : SM := sLo 1 [2] (tgN 2) (iOf (eVar 0)) (tBo (e2 dGe (eA bAbs (aCons (eVar 2) aNil)) (e2 dPow (eC (.int 10)) (eC (.int 18))))) (e2 dSub (eA bAbs (aCons (eVar 2) aNil)) (e2 dPow (eC (.int 10)) (eC (.int 18))))
@[simp] def m_bg3 : EM := eLc [2] (tgN 2) (iOf (eVar 0)) tTrue (eA bAbs (aCons (eVar 2) aNil))
theorem bg1_ok : ∀ (l : List Int) (e0 : D) (P : List D → Prop) (Z : D → Prop), (∀ big : List Int, big.length ≤ l.length → (∀ z ∈ big, 0 ≤ z) → P (big.map D.int)) →
    lcE (tgN 2) (tBo (e2 dGe (eA bAbs (aCons (eVar 2) aNil)) (e2 dPow (eC (.int 10)) (eC (.int 18))))) (e2 dSub (eA bAbs (aCons (eVar 2) aNil)) (e2 dPow (eC (.int 10)) (eC (.int 18)))) [.sh e0, .un, .un] (l.map D.int) P Z
  | [], e0, P, Z, h => h [] (Nat.le_refl _) (fun z hz => by cases hz)
  | i :: l, e0, P, Z, h => by
    have cp : CPow 10 18 := ⟨by decide, by decide, by decide⟩
    rw [List.map_cons]
    unfold lcE
    show CPow 10 18 ∧ _
    refine ⟨cp, ?_⟩
    have rec1 := bg1_ok l e0 P Z fun big h1 h2 => h big (by rw [List.length_cons]; omega) h2
    by_cases hz : (10 : Int) ^ (18 : Int).toNat ≤ (if i < 0 then -i else i)
    · show (if (decide ((10 : Int) ^ (18 : Int).toNat ≤ (if i < 0 then -i else i))) = true then _ else _)
      rw [if_pos (decide_eq_true hz)]
      show CPow 10 18 ∧ _
      refine ⟨cp, ?_⟩
      exact bg1_ok l e0 _ Z fun big h1 h2 => h (((if i < 0 then -i else i) - (10 : Int) ^ (18 : Int).toNat) :: big) (by rw [List.length_cons, List.length_cons]; omega) fun z hz2 => by
        rcases List.mem_cons.mp hz2 with rfl | hz2
        · omega
        · exact h2 z hz2
    · show (if (decide ((10 : Int) ^ (18 : Int).toNat ≤ (if i < 0 then -i else i))) = true then _ else _)
      rw [if_neg (by rw [decide_eq_false hz]; decide)]
      exact rec1
theorem bg3_ok : ∀ (l : List Int) (e0 : D) (P : List D → Prop) (Z : D → Prop), (∀ cs : List Int, cs.length = l.length → (∀ z ∈ cs, 0 ≤ z) → P (cs.map D.int)) →
    lcE (tgN 2) tTrue (eA bAbs (aCons (eVar 2) aNil)) [.sh e0, .un, .un] (l.map D.int) P Z
  | [], e0, P, Z, h => h [] rfl (fun z hz => by cases hz)
  | i :: l, e0, P, Z, h => by
    rw [List.map_cons]
    unfold lcE
    dsimp only [tgN, List.set, tTrue]
    rw [if_pos rfl]
    exact bg3_ok l e0 _ Z fun cs h1 h2 => h ((if i < 0 then -i else i) :: cs) (by rw [List.length_cons, List.length_cons]; omega) fun z hz => by
      rcases List.mem_cons.mp hz with rfl | hz
      · split <;> omega
      · exact h2 z hz
/-- the i-th value of a dict that is handed back -/
def retDict (i : Nat) : Stmt → Expr
  | .Return (some (.Dict _ vs _)) _ => vs.getD i (.Constant .none 0 ⟨0, 0, 0, 0⟩)
  | _ => .Constant .none 0 ⟨0, 0, 0, 0⟩
/-- the body: large = [..]; return {"large": large, "rest": 0, "cells": [..], "turn": 0} -/
structure BgBody (st s1 : Stmt) (e3 : Expr) (gr : Str) : Prop where
  ex : ∃ (p1 p2 p3 p4 p5 p6 p7 p8 p9 : Pos) (j1 j2 j3 j4 j5 j6 : Nat), defBody st = [s1, .Return (some (.Dict [some (.Constant (.str "large") j1 p1), some (.Constant (.str "rest") j2 p2), some (.Constant (.str "cells") j3 p3), some (.Constant (.str "turn") j4 p4)]
    [.Name "large" p5, .Constant (.int 0) j5 p6, e3, .Constant (.int 0) j6 p7] p8)) p9]
  scope : FnScope ["script", "large", gr] ["script"] (defScope st)
  ll : (defScope st).names.lookup ("large" : Str) = some .local
theorem reps_ints {K : PySem.W.Frag} {mg : Str → Option Value} {g : Gd} {S : Hp} : ∀ {l : List Int} {vs : List V}, Reps K mg g S (l.map D.int) vs → vs = l.map V.int
  | [], vs, h => by
    unfold Reps at h
    exact h
  | i :: l, vs, h => by
    rw [List.map_cons] at h
    unfold Reps at h
    obtain ⟨w, ws, rfl, h2, h3⟩ := h
    unfold Rep at h2
    rw [h2, reps_ints h3, List.map_cons]
section
variable {P : Program} {w : World} {K : PySem.W.Frag} {mg : Str → Option Value} {base : Heap} {T : List (Addr × Str)}
theorem begun_fn {x : Str} {st s1 : Stmt} {e3 : Expr} {gr : Str} {f : Addr} {fd : FuncData} {k : Nat} (F : Fun K x x st f fd) (bb : BgBody st s1 e3 gr)
    (h1 : ∀ (cdv : Value) (A : Around) (outer : List Env) (s : Shared) (H : Hp) (E : XK) (g : Gd) (B : Hp × Hp), CxK T k (cxOf (L2.CX P w) P w K mg base ["script", "large", gr] x (defScope st) f cdv A outer s H E) g E →
      DS (cxOf (L2.CX P w) P w K mg base ["script", "large", gr] x (defScope st) f cdv A outer s H E) g B E s1 m_bg1)
    (h3 : ∀ (cdv : Value) (A : Around) (outer : List Env) (s : Shared) (H : Hp) (E : XK) (g : Gd) (B : Hp × Hp), CxK T k (cxOf (L2.CX P w) P w K mg base ["script", "large", gr] x (defScope st) f cdv A outer s H E) g E →
      DE (cxOf (L2.CX P w) P w K mg base ["script", "large", gr] x (defScope st) f cdv A outer s H E) g B E e3 m_bg3) : FnG P w K mg base (k + 1) f fd 1 ["script"] (spBg K mg T) := by
  obtain ⟨p1, p2, p3, p4, p5, p6, p7, p8, p9, j1, j2, j3, j4, j5, j6, hbd⟩ := bb.ex
  refine fnG_of F bb.scope (fun vs H Q E h => ?_) fun cdv A outer s H vs Q E hr hg h => ?_
  · obtain ⟨v, l, S, rfl, _⟩ := h
    rfl
  obtain ⟨v, l, S, rfl, rl, hl, fr, kq⟩ := h
  have cx : CxK T k (cxOf (L2.CX P w) P w K mg base ["script", "large", gr] x (defScope st) f cdv A outer s H E) (g0 T) E := cxk_of hr rfl hg
  rw [hbd]
  refine ⟨_, pss_cons (h1 cdv A outer s H E (g0 T) (S, H) cx) (pss_one (ps_ret (pe_disp (pps_cons pe_str (pe_var (i := 1) rfl (.inl bb.ll) (by decide) (by decide)) (pps_cons pe_str pe_int
    (pps_cons pe_str (pe_any (t := fun B1 => clo _ (g0 T) B1 E m_bg3) fun B1 => h3 cdv A outer s H E (g0 T) B1 cx) (pps_cons pe_str pe_int pps_nil)))) rfl rfl (by simp) (by show 4 ≤ 15; decide)))), ?_⟩
  have o := ok_start (N := ["script", "large", gr]) fr (Reps.cons rl Reps.nil)
  refine ⟨_, S, { nx := fun e => ∃ big : List Int, big.length ≤ l.length ∧ (∀ z ∈ big, 0 ≤ z) ∧ e = [.sh (.scr l), .own (big.map D.int), .un], rt := fun _ => False }, o, ?_, ?_⟩
  · show (l.map D.int).length < 16777216 ∧ _
    refine ⟨by rw [List.length_map]; omega, ?_⟩
    exact bg1_ok l (.scr l) _ _ fun big q1 q2 => ⟨big, q1, q2, rfl⟩
  refine ⟨fun env S2 σ H2 q ok ex => ?_, fun _ _ _ _ z => z.elim, fun _ _ _ _ z => z.elim, fun _ _ _ _ z => z.elim, fun _ _ _ _ _ z => z.elim⟩
  obtain ⟨big, q1, q2, rfl⟩ := q
  have sl := ok.slots 1 _ rfl
  obtain ⟨b, bs, b1, b2, b3, b4, b5, b6⟩ := sl
  intro p hp
  refine ⟨.ref b, b1, ?_⟩
  have okp := ok.new (New.hid (o := .dK []) ok.frm.le hp)
  have nR : b ≠ p := fun q => by
    rw [q, hp] at b5
    cases b5
  refine ⟨(S2, upd H2 p (.dK [])), _, S2, fun d => ∃ cs : List Int, cs.length ≤ 63 ∧ (∀ z ∈ cs, 0 ≤ z) ∧ d = D.lst (cs.map D.int), fun _ => False, okp.noOwn, ?_, fun d v2 S3 H3 q3 ok3 ex3 r3 => ?_, fun _ _ _ _ _ z => z.elim⟩
  · show (l.map D.int).length < 16777216 ∧ _
    refine ⟨by rw [List.length_map]; omega, ?_⟩
    exact bg3_ok l (.scr l) _ _ fun cs q1 q2 => ⟨cs, by omega, q2, rfl⟩
  obtain ⟨cs, c1, c2, rfl⟩ := q3
  unfold Rep at r3
  obtain ⟨c, cv, rfl, r4, r5⟩ := r3
  have ecv := reps_ints r5
  subst ecv
  have fr3 := ok3.frm
  have hp3 : H3 p = some (.dK []) := fr3.fr p _ upd_same (fun z => by cases z) (fun ps z => by cases z)
  have ebs := reps_ints b6
  subst ebs
  have hb3 : H3 b = some (.lst (big.map V.int)) := fr3.fr b _ ((upd_ne nR).trans b5) (fun z => by cases z) (fun ps z => by cases z)
  have hc3 : H3 c = some (.lst (cs.map V.int)) := by
    rcases fr3.le c _ r4 with z | ⟨z, _⟩
    · exact z
    · cases z
  have sp : S3 p = none := fr3.keepN (ok.frm.le.none hp) upd_same (.inr (.inl ⟨_, rfl⟩))
  have sb : S3 b = none := fr3.keepN b2 ((upd_ne nR).trans b5) .lst
  have ncp : c ≠ p := fun q => by
    rw [q, sp] at r4
    cases r4
  have ncb : c ≠ b := fun q => by
    rw [q, sb] at r4
    cases r4
  show H3 p = some (.dK []) ∧ _
  refine ⟨hp3, [(.inr "large", .ref b), (.inr "rest", .int 0), (.inr "cells", .ref c), (.inr "turn", .int 0)], rfl, by show 4 ≤ 15; decide, ?_⟩
  have em : mergeK [] [(Sum.inr ("large" : Str), V.ref b), (.inr "rest", .int 0), (.inr "cells", .ref c), (.inr "turn", .int 0)] = [(.inr "large", .ref b), (.inr "rest", .int 0), (.inr "cells", .ref c), (.inr "turn", .int 0)] := by rfl
  rw [em]
  have hat : DrwAt p b c (upd H3 p (.dK [(.inr "large", .ref b), (.inr "rest", .int 0), (.inr "cells", .ref c), (.inr "turn", .int 0)])) :=
    ⟨big, 0, 0, upd_same, (upd_ne nR).trans hb3, by omega, q2, by omega, by omega⟩
  refine kq ⟨T, [p, b], DrwAt p b c, .ref p, fun x => if x = c then some (.lst (cs.map V.int)) else none, fun X Y same h => ?_, fun X h a ha => ?_⟩ (.ref p) S3 _ rfl ⟨Ex.rf _, fun a o z => ?_, fun _ _ z _ _ => z, fun _ z => Nn.of z, fun _ _ z => .inl z, hat, fun a ha => ?_, ?_, fr3.nt, fun a o z => ?_⟩ (ex.tr ex3) ?_
  · obtain ⟨big, rest, turn, h1, h2, h3⟩ := h
    exact ⟨big, rest, turn, (same p (by simp)).trans h1, (same b (by simp)).trans h2, h3⟩
  · obtain ⟨big, rest, turn, h1, h2, h3⟩ := h
    simp only [List.mem_cons, List.not_mem_nil, or_false] at ha
    rcases ha with rfl | rfl
    · exact ⟨_, h1, fun ps z => (by cases z), fun vs z => (by cases z), fun q z => (by cases z)⟩
    · exact ⟨_, h2, fun ps z => (by cases z), fun vs z => (by cases z), fun q z => (by cases z)⟩
  · have n : a ≠ p := fun q => by
      rw [q, sp] at z
      cases z
    rw [upd_ne n]
    exact fr3.le a o z
  · simp only [List.mem_cons, List.not_mem_nil, or_false] at ha
    rcases ha with rfl | rfl
    · exact sp
    · exact sb
  · exact tabs_upd fr3.tb hp3 (fun ps z => by cases z) (fun φ z => by cases z)
  · by_cases q : a = c
    · subst q
      have z2 : (if a = a then some (HO.lst (cs.map V.int)) else none) = some o := z
      rw [if_pos rfl] at z2
      rw [← z2]
      exact r4
    · have z2 : (if a = c then some (HO.lst (cs.map V.int)) else none) = some o := z
      rw [if_neg q] at z2
      cases z2
  · unfold Rep
    exact ⟨rfl, p, b, c, cs, rfl, rfl, if_pos rfl, c1, c2, fun _ => Iff.rfl⟩
/-- the law's promise -/
def spLw (K : PySem.W.Frag) (mg : Str → Option Value) (T : List (Addr × Str)) : Sp := fun vs H Q _ => ∃ (v : V) (l : List Int) (S : Hp), vs = [v] ∧ Rep K mg (g0 T) S (.scr l) v ∧ l.length ≤ 63 ∧ Frm (g0 T) S H S H ∧ ∀ H', Q (.bl true) H'
/-- a call upon a promise that is no computation -/
theorem pe_sp {X : Cx} {g : Gd} {E : XK} {n : Nat} {x y : Str} {st : Stmt} {f : Addr} {fd : FuncData} {sp : Sp} {a : Expr} {es : List Expr} {ta : TA} {p pos : Pos} (F : FnG X.prog X.w X.K X.mg X.base n f fd 1 [y] sp) (h2 : Fun X.K x x st f fd) (h3 : Binds X.K fd [y] []) (hm : X.mg x = some (.ref f)) (c : CxK T n X g E) (hg : Gl X x)
    (ha : PA X (a :: es) ta) (hdb : (x == ("__debug__" : Str)) = false := by decide) (hst : noStar (a :: es) = true := by rfl) : PE X (.Call (.Name x p) (a :: es) [] pos) (fun σ H Q => ta σ H fun vs H1 => vs.length = 1 ∧ sp vs H1 Q E) := by
  refine ⟨fun pins s σ H Q I h => ?_⟩
  refine wpAny_Call_Name_kw (ld_glob I hg hm ?_ hdb)
  refine PySem.W.callWith_K (h₀ := X.base) I.ok.mod.kin h2.kp (thn (ha.run pos pins s σ H _ I h) fun us s1 hh => ?_) (st_cons hst) (st_any hst)
  obtain ⟨vs, H1, I1, r, hl, q⟩ := hh
  have bd := h3 s1 us I1.kIn (by rw [List.append_nil, ← r.length]; exact hl)
  rw [List.append_nil] at bd
  exact ⟨I1.kIn, run_g F c bd I1 r q⟩
theorem dss_any {X : Cx} {E : XK} {rest : List Stmt} {m : SM} {k : Nat} {T : List (Addr × Str)} (h : ∀ (g : Gd) (B : Hp × Hp), CxK T k X g E → DSs X g B E rest m) : PSs X rest (fun D σ H => ∃ g B, CxK T k X g E ∧ cloS X g B E m D σ H) :=
  ⟨fun pins s σ H D I ⟨g, B, c, q⟩ => (h g B c).run pins s σ H D I q⟩
/-- the law: draw = _law_begun(script), and the rest, over any draws -/
theorem law_fn {N : List Str} {i k : Nat} {x bg : Str} {st stb : Stmt} {rest : List Stmt} {f fb : Addr} {fdb : FuncData} {m : SM} {oc : Value} {od an : Option Addr} {osl : Array (Option Value)} {kV doc pm cdv ct : Value} {p1 p2 p3 p4 p5 : Pos}
    (lk : K.lookup f = some ⟨oc, od, .func (PySem.W.fnOf x x (defArgs st) (defBody st) (defScope st) .none kV doc pm an cdv ct), osl⟩) (hc : PySem.W.codeIn K cdv x = true) (Sc : FnScope N ["script"] (defScope st))
    (hbd : defBody st = .Assign [.Name "draw" p1] (.Call (.Name bg p2) [.Name "script" p3] [] p4) p5 :: rest)
    (Fb : FnG P w K mg base k fb fdb 1 ["script"] (spBg K mg T)) (h2 : Fun K bg bg stb fb fdb) (h3 : Binds K fdb ["script"] []) (hm : mg bg = some (.ref fb)) (hN0 : N[0]? = some ("script" : Str)) (hNi : N[i]? = some ("draw" : Str)) (hi : i ≠ 0)
    (hv : Vis (defScope st) "script") (hl : Loc (defScope st) "draw") (hgb : (defScope st).names.lookup bg = some .globalImplicit) (hdb : (bg == ("__debug__" : Str)) = false)
    (hs : ∀ (A : Around) (outer : List Env) (s : Shared) (H : Hp) (E : XK), swapsWith (.Call (.Name bg p2) [.Name "script" p3] [] p4) (some (.Name "draw" p1)) p5.line (cxOf (L2.CX P w) P w K mg base N x (defScope st) f cdv A outer s H E).env = pure false)
    (hf : ∀ (A : Around) (outer : List Env) (s : Shared) (H : Hp) (E : XK), (cxOf (L2.CX P w) P w K mg base N x (defScope st) f cdv A outer s H E).fn "draw" = true ∨ (defScope st).names.lookup ("draw" : Str) = some .local)
    (hrest : ∀ (A : Around) (outer : List Env) (s : Shared) (H : Hp) (E : XK) (g : Gd) (B : Hp × Hp), CxK T k (cxOf (L2.CX P w) P w K mg base N x (defScope st) f cdv A outer s H E) g E →
      DSs (cxOf (L2.CX P w) P w K mg base N x (defScope st) f cdv A outer s H E) g B E rest m)
    (hspec : ∀ l : List Int, l.length ≤ 63 → m ((.sh (.scr l) :: List.replicate (N.length - 1) .un).set i (.sh .drw)) { nx := fun _ => False, rt := fun d => d = .bl true }) : FnG P w K mg base (k + 1) f (PySem.W.fnOf x x (defArgs st) (defBody st) (defScope st) .none kV doc pm an cdv ct) 1 ["script"] (spLw K mg T) := by
  have one : ∀ vs H Q E, spLw K mg T vs H Q E → vs.length = 1 := fun vs H Q E h => by
    obtain ⟨v, l, S, rfl, _⟩ := h
    rfl
  refine ⟨rfl, one, fun A outer s H args us vs Q E hr hg e0 bd rv q => ?_⟩
  refine LamX.run_ofS (N := N) lk hc Sc hr e0 bd rv (one _ _ _ _ q) fun hr2 => ?_
  obtain ⟨v, l, S, rfl, rl, hlen, fr, kq⟩ := q
  have cx0 : CxK T k (cxOf (L2.CX P w) P w K mg base N x (defScope st) f cdv A outer s H E) (g0 T) E := cxk_of hr2 rfl hg
  rw [hbd]
  refine ⟨_, pss_cons (ps_set (i := i) Sc.nd hNi hl (pe_sp Fb h2 h3 hm cx0 hgb (pa_cons (pe_var (i := 0) hN0 hv (by decide) (by decide)) pa_nil (st_one rfl)) hdb) (hs A outer s H E) (hf A outer s H E))
    (dss_any (T := T) (k := k) fun g B c => hrest A outer s H E g B c), ?_⟩
  refine ⟨_, rfl, ⟨rfl, v, l, S, rfl, rl, hlen, fr, fun g1 u S1 H1 ht f1 ex rd => ?_⟩⟩
  have cx1 : CxK T k (cxOf (L2.CX P w) P w K mg base N x (defScope st) f cdv A outer s H E) g1 E := cxk_of hr2 ht hg
  have len := Sc.nd
  have rs : Rep K mg g1 S1 (.scr l) v := by
    have z := rl.mono ex
    unfold Rep at z ⊢
    exact z
  have o1 := ok_start (N := N) f1 (Reps.cons rs Reps.nil)
  refine ⟨g1, (S1, H1), cx1, _, S1, _, o1.set i rd, hspec l hlen, fun _ _ _ _ z => z.elim, fun d v2 S2 H2 q2 f2 r2 => ?_, fun _ _ _ _ z => z.elim, fun _ _ _ _ z => z.elim, fun _ _ _ _ _ z => z.elim⟩
  subst q2
  unfold Rep at r2
  subst r2
  exact kq H2
end
/-! ### what is raised is kept: the def _law_caught -/
structure Cau (K : PySem.W.Frag) (mg : Str → Option Value) (base : Heap) (T : List (Addr × Str)) (st : Stmt) (cA PA : Addr) (q : Str) (sub : Str → Bool) : Prop where
  ex : ∃ (gA CS : Addr) (fd : FuncData), mg "_law_caught" = some (.ref gA) ∧ Fun K "_law_caught" "_law_caught" st gA fd ∧ Binds K fd ["work"] [] ∧ mg "LotError" = some (.ref CS) ∧ ∀ cx Cx, sub cx = true → mg cx = some (.ref Cx) → PySem.W.exmOne K (.ref Cx) (.ref CS) = some true
  kb : KeepBody st "work" "caught" "LotError" "error"
  tb : LamX.TabB base mg cA PA
  mem : (PA, q) ∈ T
  uq : ∀ p ∈ T, p.1 = PA → p.2 = q
theorem de_cau {X : Cx} {g : Gd} {B : Hp × Hp} {E : XK} {T : List (Addr × Str)} {n : Nat} {st : Stmt} {cA PA : Addr} {sub : Str → Bool} {q : Str} {params : Arguments} {body : Expr} {scope : Scope} {p lpos pos : Pos} {mb : EM} (C : Cau X.K X.mg X.base T st cA PA q sub) (c : CxK T (n + 2) X g E) (hg : Gl X "_law_caught")
    (hcode : X.env.code = .ref cA) (L : LamX.LamS X.env.scope scope) (hdef : defaultsOf params X.env = ([], []))
    (hbind : ∀ (q : Str) (cl : List (Str × Addr)) (pm cv ctv : Value), bindArgs (PySem.W.kla_fn "<lambda>" q params body scope cl pm cv ctv) ⟨[], []⟩ = pure [])
    (hbody : ∀ (A : Around) (outer : List Env) (s : Shared) (H : Hp) (E' : XK) (f c' : Addr) (B' : Hp × Hp), CxK T n (LamX.lamCx X A outer s H E' scope f c') g E' → DE (LamX.lamCx X A outer s H E' scope f c') g B' E' body mb)
    (hq : X.env.qual ++ "<lambda>" = q := by rfl) : DE X g B E (.Call (.Name "_law_caught" p) [.Lambda params body scope lpos] [] pos) (eCa sub mb) := by
  obtain ⟨gA, CS, fd, h1, h2, h3, h4, h5⟩ := C.ex
  subst hq
  exact de_caught c hg h1 h2 h3 C.kb h4 h5 C.tb hcode C.mem C.uq L hdef hbind hbody
/-- the law's promise holds at the start of its call -/
theorem spLw_start {K : PySem.W.Frag} {mg : Str → Option Value} {T : List (Addr × Str)} {ts : List Addr} {a : Addr} {known : Bool} {ob : Obj} {ns : List Int} {E : XK} (hT : ∀ p ∈ T, p.1 ∈ ts) (ha : a ∉ ts) (hl : ns.length ≤ 63) (seq : SqL K (startH ts a known ob (ns.map V.int)) a (ns.map V.int)) :
    spLw K mg T [.ref a] (startH ts a known ob (ns.map V.int)) (fun v _ => v = .bl true) E := by
  obtain ⟨S, hS⟩ : ∃ S : Hp, S = fun b => if b = a ∧ known = false then some (.frz ob (.lst (ns.map V.int))) else none := ⟨_, rfl⟩
  have sub : ∀ b o, S b = some o → startH ts a known ob (ns.map V.int) b = some o ∧ o = .frz ob (.lst (ns.map V.int)) := fun b o e => by
    rw [hS] at e
    have e2 : (if b = a ∧ known = false then some (HO.frz ob (.lst (ns.map V.int))) else none) = some o := e
    by_cases q : b = a ∧ known = false
    · rw [if_pos q] at e2
      rw [q.1, ← Option.some.inj e2]
      exact ⟨startH_at ha q.2, rfl⟩
    · rw [if_neg q] at e2
      cases e2
  refine ⟨.ref a, ns, S, rfl, ?_, hl, ⟨Ex.rf _, fun b o e => .inl (sub b o e).1, fun _ _ z _ _ => z, fun _ z => Nn.of z, fun _ _ z => .inl z, trivial, fun b hb => (by cases hb), fun p hp => ⟨#[], startH_tab (hT p hp), by trivial, fun pos cv z => (by cases z)⟩, fun b ps e => ?_, fun b o z => (by cases z)⟩, fun _ => rfl⟩
  · unfold Rep
    refine ⟨a, rfl, ?_⟩
    rcases seq with (z | ⟨o, z⟩) | z
    · rcases startH_some z with ⟨h1, _⟩ | ⟨_, _, _, h4⟩
      · exact absurd h1 ha
      · cases h4
    · rcases startH_some z with ⟨h1, _⟩ | ⟨_, _, h3, h4⟩
      · exact absurd h1 ha
      · refine .inl (.inr ⟨ob, ?_⟩)
        rw [hS]
        exact if_pos ⟨rfl, h3⟩
    · exact .inr z
  · have z := (sub b _ e).2
    cases z
end DL

set_option Elab.async false
set_option linter.all false
set_option maxRecDepth 100000
set_option maxHeartbeats 2000000
/-! DN: what the top leaves, told by one Bool over what its names reach. -/
namespace DL
open PySem PySem.Spec PyProof.Rows L2

/-! ### an own exception with super().__init__ -/
def scopeB (sc : Scope) (y : Str) : Bool := (match sc.kind with
    | .function => true
    | _ => false) && (!sc.isCoroutine && (!sc.isGenerator && (sc.names.all (fun q => match q.2 with
    | .cell => false
    | _ => true) && ((match sc.names.lookup ("self" : Str) with
    | some .local => true
    | _ => false) && ((match sc.names.lookup y with
    | some .local => true
    | _ => false) && ((match sc.names.lookup ("super" : Str) with
    | some .globalImplicit => true
    | _ => false) && (match sc.names.lookup ("__class__" : Str) with
    | some .free => true
    | _ => false)))))))
theorem and_t {a b : Bool} (h : (a && b) = true) : a = true ∧ b = true := Bool.and_eq_true_iff.mp h
theorem scopeB_ok {sc : Scope} {y : Str} (h : scopeB sc y = true) : sc.kind = .function ∧ sc.isCoroutine = false ∧ sc.isGenerator = false ∧ (∀ x ∈ sc.names, x.2 ≠ .cell) ∧ sc.names.lookup ("self" : Str) = some .local ∧ sc.names.lookup y = some .local ∧
    sc.names.lookup ("super" : Str) = some .globalImplicit ∧ sc.names.lookup ("__class__" : Str) = some .free := by
  obtain ⟨h1, h⟩ := and_t h
  obtain ⟨h2, h⟩ := and_t h
  obtain ⟨h3, h⟩ := and_t h
  obtain ⟨h4, h⟩ := and_t h
  obtain ⟨h5, h⟩ := and_t h
  obtain ⟨h6, h⟩ := and_t h
  obtain ⟨h7, h8⟩ := and_t h
  refine ⟨?_, by simpa using h2, by simpa using h3, fun x hx z => ?_, ?_, ?_, ?_, ?_⟩
  · split at h1
    · assumption
    · cases h1
  · have q := List.all_eq_true.mp h4 x hx
    rw [z] at q
    cases q
  · split at h5
    · assumption
    · cases h5
  · split at h6
    · assumption
    · cases h6
  · split at h7
    · assumption
    · cases h7
  · split at h8
    · assumption
    · cases h8
/-- the body: super().__init__(text); self.fn = y -/
def bodyB (b : FuncBody) (y fn : Str) : Bool := match b with
  | .stmts [.Expr (.Call (.Attribute (.Call (.Name su p0) [] [] p1) ini p2) [.Constant (.str m) j p3] [] p4) p5, .Assign [.Attribute (.Name se p6) f2 p7] (.Name y2 p8) p9] =>
    decide (su = "super") && (decide (ini = "__init__") && (decide (se = "self") && (decide (f2 = fn) && (decide (y2 = y) && (p2.endLine == p4.line)))))
  | _ => false
theorem bodyB_ok {b : FuncBody} {y fn : Str} (h : bodyB b y fn = true) : ∃ (m : Str) (p0 p1 p2 p3 p4 p5 p6 p7 p8 p9 : Pos) (j : Nat), b = .stmts [.Expr (.Call (.Attribute (.Call (.Name "super" p0) [] [] p1) "__init__" p2) [.Constant (.str m) j p3] [] p4) p5,
      .Assign [.Attribute (.Name "self" p6) fn p7] (.Name y p8) p9] ∧ (p2.endLine == p4.line) = true := by
  unfold bodyB at h
  split at h
  · rename_i su p0 p1 ini p2 m j p3 p4 p5 se p6 f2 p7 y2 p8 p9
    obtain ⟨h1, h⟩ := and_t h
    obtain ⟨h2, h⟩ := and_t h
    obtain ⟨h3, h⟩ := and_t h
    obtain ⟨h4, h⟩ := and_t h
    obtain ⟨h5, h6⟩ := and_t h
    rw [of_decide_eq_true h1, of_decide_eq_true h2, of_decide_eq_true h3, of_decide_eq_true h4, of_decide_eq_true h5]
    exact ⟨m, p0, p1, p2, p3, p4, p5, p6, p7, p8, p9, j, rfl, h6⟩
  · cases h
def parB (a : Arguments) (y : Str) : Bool := match a with
  | ⟨[], [⟨s, none, q1⟩, ⟨y2, none, q2⟩], none, [], [], none, []⟩ => decide (s = "self") && decide (y2 = y)
  | _ => false
theorem parB_ok {a : Arguments} {y : Str} (h : parB a y = true) : ∃ q1 q2 : Pos, a = { posonlyargs := [], args := [⟨"self", none, q1⟩, ⟨y, none, q2⟩], vararg := none, kwonlyargs := [], kw_defaults := [], kwarg := none, defaults := [] } := by
  unfold parB at h
  split at h
  · rename_i s q1 y2 q2
    obtain ⟨h1, h2⟩ := and_t h
    rw [of_decide_eq_true h1, of_decide_eq_true h2]
    exact ⟨q1, q2, rfl⟩
  · cases h
def iniB (K : PySem.W.Frag) (file : Str) (C fI : Addr) (y fn : Str) : Bool := match K.lookup fI with
  | some ⟨_, _, .func fd, _⟩ => bodyB fd.body y fn && ((match fd.defaults with
      | .none => true
      | _ => false) && (parB fd.params y && (scopeB fd.scope y && (decide (fd.globals = mainGlobals) && (decide (fd.builtins = builtinsNs) && ((match fd.closure with
      | [(cn, cc)] => decide (cn = "__class__") && (match K.lookup cc with
        | some ⟨_, _, .cell (some (.ref C2)), _⟩ => decide (C2 = C)
        | _ => false)
      | _ => false) && (match fd.code with
      | .ref cda => PySem.W.codeIn K (.ref cda) fd.qualname && (match K.lookup cda with
        | some ⟨_, _, .fields vs, _⟩ => (match vs[2]? with
          | some (Value.str f _) => file == f
          | _ => false)
        | _ => false)
      | _ => false)))))))
  | _ => false
def clsB (K : PySem.W.Frag) (C : Addr) : Bool := match K.lookup C with
  | some ⟨.type t, _, .cls cd, sl⟩ => (match cd.mro, sl.toList with
    | .ref C2 :: bm, [_, _, _, _, some (.builtin n), _] => decide (t = "type") && (decide (C2 = C) && (decide (n = "ValueError.__new__") && (!cd.hasDel && (cd.hasDict && PySem.HandSPX.refsVE bm))))
    | _, _ => false)
  | _ => false
theorem clsB_ok {K : PySem.W.Frag} {C : Addr} (h : clsB K C = true) : ∃ nm q N bs bm sn sub ab col dd k0 k1 k2 k3 k5, K.lookup C = some (excClassObj nm q C N bs bm true sn sub ab col dd k0 k1 k2 k3 k5 "ValueError.__new__") ∧ PySem.HandSPX.refsVE bm = true := by
  unfold clsB at h
  split at h
  · rename_i t dd cd sl hl
    split at h
    · rename_i C2 bm k0 k1 k2 k3 n k5 hm hs
      obtain ⟨h1, h⟩ := and_t h
      obtain ⟨h2, h⟩ := and_t h
      obtain ⟨h3, h⟩ := and_t h
      obtain ⟨h4, h⟩ := and_t h
      obtain ⟨h5, h6⟩ := and_t h
      have e1 := of_decide_eq_true h1
      have e2 := of_decide_eq_true h2
      have e3 := of_decide_eq_true h3
      subst e1 e2 e3
      obtain ⟨nm, bs, mro, ns, qn, hd, sn, sub, ab, col, del⟩ := cd
      dsimp only at hm h4 h5
      have e4 : del = false := by simpa using h4
      subst hm h5 e4
      have hsl : sl = #[k0, k1, k2, k3, some (.builtin "ValueError.__new__"), k5] := by
        obtain ⟨l⟩ := sl
        dsimp only at hs
        rw [hs]
      subst hsl
      exact ⟨nm, qn, ns, bs, bm, sn, sub, ab, col, dd, k0, k1, k2, k3, k5, hl, h6⟩
    · cases h
  · cases h
def supB (K : PySem.W.Frag) (file : Str) (C fI : Addr) (y fn : Str) : Bool := clsB K C && (iniB K file C fI y fn && (He.eqO (PySem.W.findIn K (.ref C) "__init__") (some (some (.ref fI))) && (decide (PySem.W.typeIn K (.ref fI) = some (.type "function")) &&
  (He.eqO (PySem.W.findIn K (.ref C) "__setattr__") (some (some (.builtin "object.__setattr__"))) && (decide (PySem.W.subIn K (.ref C) (.type "BaseException") = some true) && (decide (PySem.W.subIn K (.ref C) (.type "ValueError") = some true) && (decide (PySem.W.subIn K (.ref C) (.ref C) = some true) &&
  (decide (PySem.W.typeIn K (.ref C) = some (.type "type")) && (PySem.W.keepIn K (.ref C) && (He.eqO (PySem.W.findIn K (.ref C) fn) (some none) && (He.eqO (PySem.W.nsIn K PySem.cStatics "thirdparty.any") (some none) && He.eqO (PySem.W.ks_superIn K C C "__init__") (some (some (.builtin "ValueError.__init__"))))))))))))))
theorem sup_ok {P : Program} {K : PySem.W.Frag} {mg : Str → Option Value} {C fI : Addr} {y fn : Str} (h : supB K (P.main.file : Str) C fI y fn = true) (msu : mg "super" = none) (top : (P.main.scope.names.lookup ("super" : Str)).isSome = false)
    (ny : (y == ("self" : Str)) = false ∧ (y == ("__debug__" : Str)) = false ∧ (fn == ("__class__" : Str)) = false)
    (hb : ∀ (name qual : Str) (body : List Stmt) (scope : Scope) (kV doc pm : Value) (an : Option Addr) (cdv ct : Value) (cc : Addr) (q1 q2 : Pos) (a b : Value), bindArgs (PySem.W.ksFn name qual { posonlyargs := [], args := [⟨"self", none, q1⟩, ⟨y, none, q2⟩], vararg := none, kwonlyargs := [], kw_defaults := [], kwarg := none, defaults := [] } body scope .none kV doc pm an cdv ct cc) ⟨[a, b], []⟩ = pure [(("self" : Str), a), (y, b)]) : SupC P K mg C fI y fn := by
  obtain ⟨a1, h⟩ := and_t h
  obtain ⟨a2, h⟩ := and_t h
  obtain ⟨a3, h⟩ := and_t h
  obtain ⟨a4, h⟩ := and_t h
  obtain ⟨a5, h⟩ := and_t h
  obtain ⟨a6, h⟩ := and_t h
  obtain ⟨a7, h⟩ := and_t h
  obtain ⟨a8, h⟩ := and_t h
  obtain ⟨a9, h⟩ := and_t h
  obtain ⟨a10, h⟩ := and_t h
  obtain ⟨a11, h⟩ := and_t h
  obtain ⟨a12, a13⟩ := and_t h
  refine ⟨clsB_ok a1, He.eqO_ok a3, of_decide_eq_true a4, He.eqO_ok a5, of_decide_eq_true a6, of_decide_eq_true a7, of_decide_eq_true a8, of_decide_eq_true a9, a10, He.eqO_ok a11, He.eqO_ok a12, He.eqO_ok a13, msu, top, ?_, ny⟩
  unfold iniB at a2
  split at a2
  · rename_i oc od fd osl hl
    obtain ⟨name, qual, params, body, scope, gl, clo, dV, kV, doc, pm, an, cdv, ct, bi⟩ := fd
    dsimp only at a2
    obtain ⟨b1, z1⟩ := and_t a2
    obtain ⟨b0, z2⟩ := and_t z1
    have e0 : dV = .none := by
      split at b0
      · rfl
      · cases b0
    subst e0
    obtain ⟨b2, z3⟩ := and_t z2
    obtain ⟨b3, z4⟩ := and_t z3
    obtain ⟨b4, z5⟩ := and_t z4
    obtain ⟨b5, z6⟩ := and_t z5
    obtain ⟨b6, b7⟩ := and_t z6
    obtain ⟨m, p0, p1, p2, p3, p4, p5, p6, p7, p8, p9, j, rfl, hline⟩ := bodyB_ok b1
    obtain ⟨q1, q2, rfl⟩ := parB_ok b2
    obtain ⟨s1, s2, s3, s4, s5, s6, s7, s8⟩ := scopeB_ok b3
    have e4 := of_decide_eq_true b4
    have e5 := of_decide_eq_true b5
    subst e4 e5
    split at b6
    · rename_i cn cc
      obtain ⟨c1, c2⟩ := and_t b6
      have e6 := of_decide_eq_true c1
      subst e6
      split at c2
      · rename_i cl cld C2 csl hcc
        have e7 := of_decide_eq_true c2
        subst e7
        split at b7
        · rename_i cda
          obtain ⟨d1, d2⟩ := and_t b7
          split at d2
          · rename_i ccl cdd vs ccs hcd
            split at d2
            · rename_i f tf hf
              refine ⟨name, qual, m, _, q1, q2, p0, p1, p2, p3, p4, p5, p6, p7, p8, p9, j, scope, .none, kV, doc, pm, an, cda, cc, ct, oc, cl, ccl, od, cld, cdd, osl, csl, ccs, vs, f, tf, hl, rfl, d1, hcd, hf, d2, hcc, s1, s2, s3, s4, s5, s6, s7, s8, fun a b => ?_, fun env => ⟨plainOf (.Call (.Name "super" p0) [] [] p1) env, ?_⟩⟩
              · exact hb _ _ _ _ _ _ _ _ _ _ _ _ _ a b
              · have e : ∀ ov : Value, methodCall (.Call (.Name "super" p0) [] [] p1) "__init__" p2 p4 env ov 1 (backTo p4 (starEach [.Constant (.str m) j p3] env)) [] = (do
                    let (f, first) ← holding [ov] (getMethod ov "__init__" (plainOf (.Call (.Name "super" p0) [] [] p1) env))
                    callWith p4 f first (backTo p4 (starEach [.Constant (.str m) j p3] env)) []) := fun ov => mcall_line rfl hline
                simp only [← e]
                rfl
            · cases d2
          · cases d2
        · cases b7
      · cases c2
    · cases b6
  · cases a2
theorem bind_part (name qual : Str) (body : List Stmt) (scope : Scope) (kV doc pm : Value) (an : Option Addr) (cdv ct : Value) (cc : Addr) (q1 q2 : Pos) (a b : Value) : bindArgs (PySem.W.ksFn name qual { posonlyargs := [], args := [⟨"self", none, q1⟩, ⟨"part", none, q2⟩], vararg := none, kwonlyargs := [], kw_defaults := [], kwarg := none, defaults := [] } body scope .none kV doc pm an cdv ct cc) ⟨[a, b], []⟩ = pure [(("self" : Str), a), ("part", b)] := rfl
theorem bind_name (name qual : Str) (body : List Stmt) (scope : Scope) (kV doc pm : Value) (an : Option Addr) (cdv ct : Value) (cc : Addr) (q1 q2 : Pos) (a b : Value) : bindArgs (PySem.W.ksFn name qual { posonlyargs := [], args := [⟨"self", none, q1⟩, ⟨"name", none, q2⟩], vararg := none, kwonlyargs := [], kw_defaults := [], kwarg := none, defaults := [] } body scope .none kV doc pm an cdv ct cc) ⟨[a, b], []⟩ = pure [(("self" : Str), a), ("name", b)] := rfl
theorem bind_at (name qual : Str) (body : List Stmt) (scope : Scope) (kV doc pm : Value) (an : Option Addr) (cdv ct : Value) (cc : Addr) (q1 q2 : Pos) (a b : Value) : bindArgs (PySem.W.ksFn name qual { posonlyargs := [], args := [⟨"self", none, q1⟩, ⟨"at", none, q2⟩], vararg := none, kwonlyargs := [], kw_defaults := [], kwarg := none, defaults := [] } body scope .none kV doc pm an cdv ct cc) ⟨[a, b], []⟩ = pure [(("self" : Str), a), ("at", b)] := rfl
theorem bind_most (name qual : Str) (body : List Stmt) (scope : Scope) (kV doc pm : Value) (an : Option Addr) (cdv ct : Value) (cc : Addr) (q1 q2 : Pos) (a b : Value) : bindArgs (PySem.W.ksFn name qual { posonlyargs := [], args := [⟨"self", none, q1⟩, ⟨"most", none, q2⟩], vararg := none, kwonlyargs := [], kw_defaults := [], kwarg := none, defaults := [] } body scope .none kV doc pm an cdv ct cc) ⟨[a, b], []⟩ = pure [(("self" : Str), a), ("most", b)] := rfl
/-! ### facts -/
def xckB (K : PySem.W.Frag) (C : Addr) : Bool := (PySem.W.clsIn K C).isSome && (PySem.W.hasDictIn K C && (He.eqO (PySem.W.findIn K (.ref C) "__getattribute__") (some (some (.builtin "BaseException.__getattribute__"))) && (He.eqO (PySem.W.findIn K (.ref C) "__getattr__") (some none) &&
  (decide (PySem.W.subIn K (.ref C) (.type "BaseException") = some true) && (He.eqO (PySem.W.findIn K (.ref C) "__class__") (some (some (.builtin "object.__class__"))) && (He.eqO (PySem.W.specialIn K (.builtin "object.__class__") "__get__") (some (some (.builtin "getset_descriptor.__get__"))) &&
  (decide (PySem.W.takesIn K (.builtin "object.__class__") = some true) && decide (PySem.W.mroIn K C (.type "object") = some true))))))))
theorem xck_ok {K : PySem.W.Frag} {C : Addr} (h : xckB K C = true) : XcK K C := by
  obtain ⟨a1, h⟩ := and_t h
  obtain ⟨a2, h⟩ := and_t h
  obtain ⟨a3, h⟩ := and_t h
  obtain ⟨a4, h⟩ := and_t h
  obtain ⟨a5, h⟩ := and_t h
  obtain ⟨a6, h⟩ := and_t h
  obtain ⟨a7, h⟩ := and_t h
  obtain ⟨a8, a9⟩ := and_t h
  exact ⟨a1, a2, He.eqO_ok a3, He.eqO_ok a4, of_decide_eq_true a5, He.eqO_ok a6, He.eqO_ok a7, of_decide_eq_true a8, of_decide_eq_true a9⟩
/-- a fact of the top -/
inductive Fx where
  | fa (f : He.Fa)
  | bi (x : Str) (id : String)
  | kit (t : String) (c : Str) (b : Bool)
  | kie (x c : Str) (b : Bool)
  | xck (x : Str)
  | nof (x f : Str)
  | sup (file x y fn : Str)
  | exm (x c : Str) (b : Bool)
  | tne (x y : Str)
def Fx.ok (K : PySem.W.Frag) : Fx → Bool
  | .fa f => f.ok K
  | .bi x id => He.eqO (PySem.W.nsIn K mainGlobals x) (some (some (.builtin id)))
  | .kit t c b => decide (PySem.W.kitOne K (.type t) (.ref (He.ga K c)) = some b)
  | .kie x c b => decide (PySem.W.kitOne K (.ref (He.ga K x)) (.ref (He.ga K c)) = some b)
  | .xck x => xckB K (He.ga K x)
  | .nof x f => He.eqO (PySem.W.findIn K (.ref (He.ga K x)) f) (some none)
  | .sup file x y fn => supB K file (He.ga K x) (He.ma K (He.ga K x) "__init__") y fn
  | .exm x c b => decide (PySem.W.exmOne K (.ref (He.ga K x)) (.ref (He.ga K c)) = some b)
  | .tne x y => decide ((He.cT K (x, none)).2 ≠ (He.cT K (y, none)).2)
/-! ### the Hook -/
def refsL (o : Obj) : List Addr := He.refsD o ++ (match o.data with
  | .func fd => fd.closure.map (·.2)
  | .cell (some v) => He.refV v
  | _ => [])
def growL (g : Addr → Option Obj) (as : List Addr) : List Addr := (as ++ as.flatMap fun a => match g a with
  | some o => refsL o
  | none => []).eraseDups
def asL (g : Addr → Option Obj) : Nat → List Addr
  | 0 => [mainGlobals, PySem.cStatics]
  | n + 1 => growL g (asL g n)
abbrev AlL : Type := Bool × List He.FnV
def obsL (n : Nat) (fx : List Fx) (fn : List He.FnD) (tf : List He.Defn) (g : Addr → Option Obj) : AlL :=
  ((fx.all fun f => f.ok (He.frT g (asL g n))) && He.tabsB g tf (He.frT g (asL g n)), fn.map fun d => He.fnObs (He.frT g (asL g n)) d.at_)
def valL (fn : List He.FnD) : AlL := (true, fn.map He.FnD.val)
structure SaysL (fx : List Fx) (fn : List He.FnD) (tf : List He.Defn) (h : Heap) (K : PySem.W.Frag) : Prop where
  facts : (fx.all fun f => f.ok K) = true
  defs : fn.map (fun d => He.fnObs K d.at_) = fn.map He.FnD.val
  hd : ∀ p ∈ tf, PySem.W.codeHdIn K (He.cT K p).1 (He.cT K p).2 = true
  out : ∀ p ∈ tf, K.lookup (He.cT K p).2 = none
  empty : ∀ p ∈ tf, h.get? (He.cT K p).2 = some { cls := .none, data := .fields #[] }
theorem saysL_of {n : Nat} {fx : List Fx} {fn : List He.FnD} {tf : List He.Defn} {h : Heap} (e : obsL n fx fn tf h.get? = valL fn) : SaysL fx fn tf h (He.frT h.get? (asL h.get? n)) := by
  have e1 : ((fx.all fun f => f.ok (He.frT h.get? (asL h.get? n))) && He.tabsB h.get? tf (He.frT h.get? (asL h.get? n))) = true := congrArg (fun z : AlL => z.1) e
  have e2 : (fn.map fun d => He.fnObs (He.frT h.get? (asL h.get? n)) d.at_) = fn.map He.FnD.val := congrArg (fun z : AlL => z.2) e
  obtain ⟨h1, h2⟩ := and_t e1
  have key : ∀ p ∈ tf, PySem.W.codeHdIn (He.frT h.get? (asL h.get? n)) (He.cT (He.frT h.get? (asL h.get? n)) p).1 (He.cT (He.frT h.get? (asL h.get? n)) p).2 = true ∧ ∃ o, h.get? (He.cT (He.frT h.get? (asL h.get? n)) p).2 = some o ∧ He.emptyTab o = true := fun p hp => by
    obtain ⟨h3, h4⟩ := and_t (List.all_eq_true.mp h2 p hp)
    refine ⟨h3, ?_⟩
    split at h4
    · rename_i o q
      exact ⟨o, q, h4⟩
    · cases h4
  refine ⟨h1, e2, fun p hp => (key p hp).1, fun p hp => ?_, fun p hp => ?_⟩
  · obtain ⟨_, o, q, z⟩ := key p hp
    exact He.frT_none q z
  · obtain ⟨_, o, q, z⟩ := key p hp
    rw [q, He.emptyTab_eq z]
def hookL (n : Nat) (fx : List Fx) (fn : List He.FnD) (tf : List He.Defn) : PySem.W.Hook where
  α := AlL
  obs := fun s => obsL n fx fn tf s.heap.get?
  val := fun _ => valL fn
  says := fun _ h => ∃ K : PySem.W.Frag, K.In h ∧ SaysL fx fn tf h K
  of := fun _ _ e => ⟨_, He.frT_in, saysL_of e⟩
  keeps := fun _ _ _ ⟨K, hK, c⟩ k => ⟨K, PySem.W.Frag.In.keeps hK k, ⟨c.facts, c.defs, c.hd, c.out, fun p hp => k _ _ (c.empty p hp)⟩⟩
theorem obsL_eq {n : Nat} {fx : List Fx} {fn : List He.FnD} {tf : List He.Defn} {g : Addr → Option Obj} {s : Shared} (h : ∀ a, g a = s.heap.get? a) : obsL n fx fn tf g = (hookL n fx fn tf).obs s := by
  have e : g = s.heap.get? := funext h
  rw [e] <;> rfl
section
variable {fx : List Fx} {fn : List He.FnD} {tf : List He.Defn} {h : Heap} {K : PySem.W.Frag}
theorem SaysL.fact (c : SaysL fx fn tf h K) (i : Nat) {f : Fx} (e : fx[i]? = some f := by rfl) : f.ok K = true := List.all_eq_true.mp c.facts f (List.mem_of_getElem? e)
/-- a def of the module: its three facts, its look -/
def defFx (x : Str) : List Fx := [.fa (.glo x), .fa (.keep x), .fa (.code (x, none) x)]
def defFn (x : Str) (st : Stmt) : He.FnD := ⟨(x, none), x, x, defArgs st, defBody st, defScope st⟩
theorem SaysL.defF {mg : Str → Option Value} (c : SaysL fx fn tf h K) (X : K.In h) (G : h.Ns mainGlobals mg) {x : Str} {st : Stmt} (i j : Nat) (e1 : fx[i]? = some (.fa (.glo x)) := by rfl) (e2 : fx[i + 1]? = some (.fa (.keep x)) := by rfl) (e3 : fx[i + 2]? = some (.fa (.code (x, none) x)) := by rfl) (e4 : fn[j]? = some (defFn x st) := by rfl) :
    mg x = some (.ref (He.ga K x)) ∧ PySem.W.keepIn K (.ref (He.ga K x)) = true ∧ ∃ oc od osl kV doc pm an cdv ct, K.lookup (He.ga K x) = some ⟨oc, od, .func (PySem.W.fnOf x x (defArgs st) (defBody st) (defScope st) .none kV doc pm an cdv ct), osl⟩ ∧ PySem.W.codeIn K cdv x = true := by
  have h1 : (He.Fa.glo x).ok K = true := c.fact i e1
  have h2 : (He.Fa.keep x).ok K = true := c.fact (i + 1) e2
  have h3 : (He.Fa.code (x, none) x).ok K = true := c.fact (i + 2) e3
  have ed := c.defs
  have e5 : (fn.map fun d => He.fnObs K d.at_)[j]? = (fn.map He.FnD.val)[j]? := by rw [ed]
  rw [List.getElem?_map, List.getElem?_map, e4] at e5
  exact ⟨He.glo_ok X G h1, h2, He.fn_ok (d := defFn x st) (Option.some.inj e5) h3⟩
theorem SaysL.defFF {mg : Str → Option Value} (c : SaysL fx fn tf h K) (X : K.In h) (G : h.Ns mainGlobals mg) {x : Str} {st : Stmt} (i j : Nat) (e1 : fx[i]? = some (.fa (.glo x)) := by rfl) (e2 : fx[i + 1]? = some (.fa (.keep x)) := by rfl) (e3 : fx[i + 2]? = some (.fa (.code (x, none) x)) := by rfl) (e4 : fn[j]? = some (defFn x st) := by rfl) : DefF K mg x st := by
  obtain ⟨h1, h2, oc, od, osl, kV, doc, pm, an, cdv, ct, h3, h4⟩ := c.defF X G (st := st) i j e1 e2 e3 e4
  exact ⟨_, _, h1, fun_mk h3 h4 h2⟩
end
end DL

set_option Elab.async false
set_option linter.all false
set_option maxRecDepth 100000
set_option maxHeartbeats 4000000
/-! DS: sorted: whole numbers, tuples of whole numbers, of any number. -/
namespace DL
open PySem PySem.Spec PyProof.Rows L2
/-! ### the order of rows of numbers -/
theorem lex_irr : ∀ x : List Int, HT.lexLt x x = false
  | [] => rfl
  | a :: x => by
    rw [HT.lexLt_cons, if_pos rfl]
    exact lex_irr x
theorem lex_asym : ∀ x y : List Int, HT.lexLt x y = true → HT.lexLt y x = false
  | [], [], h => by cases h
  | [], _ :: _, _ => rfl
  | _ :: _, [], h => by cases h
  | a :: x, b :: y, h => by
    rw [HT.lexLt_cons] at h ⊢
    by_cases e : a = b
    · rw [if_pos e] at h
      rw [if_pos e.symm]
      exact lex_asym x y h
    · rw [if_neg e] at h
      rw [if_neg (fun z => e z.symm)]
      have := of_decide_eq_true h
      exact decide_eq_false (by omega)
theorem lex_tr : ∀ x y z : List Int, HT.lexLt x y = false → HT.lexLt y z = false → HT.lexLt x z = false
  | x, _, [], _, _ => by cases x <;> rfl
  | [], [], c :: z, _, h => by cases h
  | [], b :: y, c :: z, h, _ => by cases h
  | a :: x, [], c :: z, _, h => by cases h
  | a :: x, b :: y, c :: z, h1, h2 => by
    rw [HT.lexLt_cons] at h1 h2 ⊢
    by_cases e1 : a = b
    · rw [if_pos e1] at h1
      by_cases e2 : b = c
      · rw [if_pos e2] at h2
        rw [if_pos (e1.trans e2)]
        exact lex_tr x y z h1 h2
      · rw [if_neg e2] at h2
        rw [if_neg (by rw [e1]; exact e2), e1]
        exact h2
    · rw [if_neg e1] at h1
      have q1 := of_decide_eq_false h1
      by_cases e2 : b = c
      · rw [if_neg (by rw [← e2]; exact e1), ← e2]
        exact h1
      · rw [if_neg e2] at h2
        have q2 := of_decide_eq_false h2
        rw [if_neg (by omega)]
        exact decide_eq_false (by omega)
theorem lex_eq : ∀ x y : List Int, HT.lexLt x y = false → HT.lexLt y x = false → x = y
  | [], [], _, _ => rfl
  | [], _ :: _, h, _ => by cases h
  | _ :: _, [], _, h => by cases h
  | a :: x, b :: y, h1, h2 => by
    rw [HT.lexLt_cons] at h1 h2
    by_cases e : a = b
    · rw [if_pos e] at h1
      rw [if_pos e.symm] at h2
      rw [e, lex_eq x y h1 h2]
    · rw [if_neg e] at h1
      rw [if_neg (fun z => e z.symm)] at h2
      have q1 := of_decide_eq_false h1
      have q2 := of_decide_eq_false h2
      omega
theorem lexK_swo {α : Type} (k : α → List Int) : SrtO.Swo fun x y => HT.lexLt (k x) (k y) := ⟨fun x y h => lex_asym _ _ h, fun x y z h1 h2 => lex_tr _ _ _ h2 h1⟩
theorem lex_swo : SrtO.Swo HT.lexLt := ⟨fun x y h => lex_asym _ _ h, fun x y z h1 h2 => lex_tr _ _ _ h2 h1⟩
/-- rows put in order -/
def insR (x : List Int) : List (List Int) → List (List Int)
  | [] => [x]
  | y :: l => if HT.lexLt y x = true then y :: insR x l else x :: y :: l
def sortR : List (List Int) → List (List Int)
  | [] => []
  | x :: l => insR x (sortR l)
theorem insR_perm (x : List Int) : ∀ l, (insR x l).Perm (x :: l)
  | [] => List.Perm.refl _
  | y :: l => by
    unfold insR
    split
    · exact ((insR_perm x l).cons y).trans (List.Perm.swap x y l)
    · exact List.Perm.refl _
theorem sortR_perm : ∀ l, (sortR l).Perm l
  | [] => List.Perm.refl _
  | x :: l => (insR_perm x _).trans ((sortR_perm l).cons x)
abbrev SrtR (l : List (List Int)) : Prop := l.Pairwise fun x y => HT.lexLt y x = false
theorem insR_srt (x : List Int) : ∀ l, SrtR l → SrtR (insR x l)
  | [], _ => List.pairwise_singleton _ _
  | y :: l, h => by
    obtain ⟨h1, h2⟩ := List.pairwise_cons.mp h
    unfold insR
    split
    · rename_i q
      refine List.pairwise_cons.mpr ⟨fun z hz => ?_, insR_srt x l h2⟩
      rcases List.mem_cons.mp ((insR_perm x l).mem_iff.mp hz) with rfl | hz
      · exact lex_asym _ _ q
      · exact h1 z hz
    · rename_i q
      have q2 : HT.lexLt y x = false := by simpa using q
      refine List.pairwise_cons.mpr ⟨fun z hz => ?_, h⟩
      rcases List.mem_cons.mp hz with rfl | hz
      · exact q2
      · exact lex_tr _ _ _ (h1 z hz) q2
theorem sortR_srt : ∀ l, SrtR (sortR l)
  | [] => List.Pairwise.nil
  | x :: l => insR_srt x _ (sortR_srt l)
/-- in order and the same rows: just one -/
theorem srtR_uniq : ∀ {l m : List (List Int)}, SrtR l → SrtR m → l.Perm m → l = m
  | [], m, _, _, h => (List.Perm.eq_nil h.symm).symm
  | x :: l, [], _, _, h => absurd h.length_eq (by simp)
  | x :: l, y :: m, hl, hm, h => by
    obtain ⟨a1, a2⟩ := List.pairwise_cons.mp hl
    obtain ⟨b1, b2⟩ := List.pairwise_cons.mp hm
    have e : x = y := by
      refine lex_eq x y ?_ ?_
      · rcases List.mem_cons.mp (h.mem_iff.mp (List.mem_cons_self (a := x) (l := l))) with e | hx
        · rw [e]; exact lex_irr y
        · exact b1 x hx
      · rcases List.mem_cons.mp (h.mem_iff.mpr (List.mem_cons_self (a := y) (l := m))) with e | hy
        · rw [e]; exact lex_irr x
        · exact a1 y hy
    subst e
    rw [srtR_uniq a2 b2 h.cons_inv]

/-! ### tuples of whole numbers in the heap -/
def IsIT (h : Heap) (v : Value) (ns : List Int) : Prop := ∃ (a : Addr) (o : Obj) (its : Array Value) (n : Nat), v = .ref a ∧ h.get? a = some o ∧ o.cls = .type "tuple" ∧ o.data = .seq its n ∧ IntsAre its.toList ns
theorem IsIT.keeps {h h' : Heap} {v : Value} {ns : List Int} (p : IsIT h v ns) (k : ∀ b o, h.get? b = some o → o.cls = .type "tuple" → h'.get? b = some o) : IsIT h' v ns := by
  obtain ⟨a, o, its, n, e, ho, hc, hd, hi⟩ := p
  exact ⟨a, o, its, n, e, k a o ho hc, hc, hd, hi⟩
section
variable {prog : Program} {w : World} {A : Around} {E : Value → Shared → Prop} {s : Shared}
theorem lexRun : ∀ (us vs : List Value) (ns ms : List Int) (i : Nat), IntsAre us ns → IntsAre vs ms →
    PySem.W.KatLex prog w A true (decide (us.length < vs.length)) (fun r s' => s' = s ∧ r = HT.lexLt ns ms) (us.zip vs) i s
  | [], [], _, _, i, h1, h2 => by
    cases h1
    cases h2
    exact PySem.W.kat_nil ⟨rfl, rfl⟩
  | [], _ :: _, _, _, i, h1, h2 => by
    cases h1
    cases h2
    exact PySem.W.kat_nil ⟨rfl, rfl⟩
  | _ :: _, [], _, _, i, h1, h2 => by
    cases h1
    cases h2
    exact PySem.W.kat_nil ⟨rfl, rfl⟩
  | u :: us, v :: vs, ns, ms, i, h1, h2 => by
    cases h1
    rename_i x t ns h1
    cases h2
    rename_i y t2 ms h2
    rw [List.zip_cons_cons]
    refine PySem.W.kat_cons (SeqAt.EqAt.int_int x t y t2 prog w _ _ ?_)
    rw [HT.lexLt_cons]
    refine PySem.W.kat_go (fun e => ?_) (fun e => ?_)
    · have ex : x = y := by simpa using e
      rw [if_pos ex]
      have e2 : decide ((Value.int x t :: us).length < (Value.int y t2 :: vs).length) = decide (us.length < vs.length) := by
        rw [List.length_cons, List.length_cons]
        by_cases q : us.length < vs.length
        · rw [decide_eq_true q, decide_eq_true (by omega)]
        · rw [decide_eq_false q, decide_eq_false (by omega)]
      rw [e2]
      exact PySem.W.kat_yes (lexRun us vs ns ms (i + 1) h1 h2)
    · have ex : ¬ x = y := by simpa using e
      rw [if_neg ex]
      by_cases hi : i = 0
      · subst hi
        exact PySem.W.kat_no (oneLt_int ⟨rfl, rfl⟩)
      · have eb : (true && i == 0) = false := by simpa using hi
        refine PySem.W.kat_no ?_
        rw [eb]
        refine PySem.W.kat_one _ _ (PyProof.Rows.lt_int ?_)
        exact ⟨rfl, rfl⟩
theorem its_cmp {vs : List Value} {k : Value → List Int} (hp : ∀ v ∈ vs, IsIT s.heap v (k v)) : SrtO.Cmp prog w A s (tuples' true) (fun p => p.1 ∈ vs) (SrtO.lt2 fun v u => HT.lexLt (k v) (k u)) := by
  intro p q hm hm'
  have h1 := hp _ hm
  have h2 := hp _ hm'
  show wpAny (model prog w) A (keyLt' (tuples' true) p.1 q.1) (fun r s' => s' = s ∧ r = HT.lexLt (k p.1) (k q.1)) (fun _ _ => False) s
  obtain ⟨a, o, its, n, e, ho, hc, hd, hi⟩ := h1
  obtain ⟨a', o', its', n', e', ho', hc', hd', hi'⟩ := h2
  generalize k p.1 = x at hi ⊢
  generalize k q.1 = y at hi' ⊢
  rw [e, e']
  refine PySem.W.kat_lt ho hd ho' hd' ?_
  have z := lexRun (prog := prog) (w := w) (A := A) (s := s) its.toList its'.toList x y 0 hi hi'
  rw [Array.length_toList, Array.length_toList] at z
  exact z
theorem its_firsts {h : Heap} {k : Value → List Int} : ∀ vs : List Value, (∀ v ∈ vs, IsIT h v (k v) ∧ k v ≠ []) → ∃ fs, PySem.W.KatTups h vs fs ∧ fs.length = vs.length ∧ ∀ f ∈ fs, ∃ (x : Int) (t : Tok), f = .int x t
  | [], _ => ⟨[], PySem.W.KatTups.nil, rfl, fun f hf => by cases hf⟩
  | v :: vs, hp => by
    obtain ⟨fs, h1, h2, h3⟩ := its_firsts vs fun u hu => hp u (List.mem_cons_of_mem _ hu)
    obtain ⟨⟨a, o, its, n, e, ho, hc, hd, hi⟩, hne⟩ := hp v List.mem_cons_self
    subst e
    obtain ⟨l⟩ := its
    dsimp only at hi
    generalize k (Value.ref a) = ns at hi hne
    cases hi with
    | nil => exact absurd rfl hne
    | cons x t hr =>
      rename_i us ns
      exact ⟨Value.int x t :: fs, PySem.W.KatTups.cons ho hc hd (by simp) h1, by rw [List.length_cons, List.length_cons, h2], fun f hf => by
        rcases List.mem_cons.mp hf with rfl | hf
        · exact ⟨x, t, rfl⟩
        · exact h3 f hf⟩
theorem its_sortable {a : Addr} {vs : List Value} {k : Value → List Int} (h0 : 0 < vs.length) (hp : ∀ v ∈ vs, IsIT s.heap v (k v) ∧ k v ≠ []) (ha : ∀ o, s.heap.get? a = some o → o.cls ≠ .type "tuple") : SrtO.SortableO prog w A s a vs fun v u => HT.lexLt (k v) (k u) := by
  intro h' keep
  have hp' : ∀ v ∈ vs, IsIT h' v (k v) ∧ k v ≠ [] := fun v hm => ⟨(hp v hm).1.keeps fun b o e c => keep b o (fun z => by subst z; exact ha o e c) e, (hp v hm).2⟩
  obtain ⟨fs, h1, h2, h3⟩ := its_firsts vs hp'
  refine ⟨tuples' true, fun Q E hq => ?_, its_cmp fun v hv => (hp' v hv).1⟩
  refine PySem.W.kat_kind (T := .type "int") h1 (by omega) (fun f hm => ?_) (by rfl) ?_
  · obtain ⟨x, t, rfl⟩ := h3 f hm
    exact PySem.W.Looks.now
  · have e : (Value.type "int" != Value.type "tuple") = true := by decide +kernel
    rw [e]
    exact hq
/-- sorted(l), l a list of tuples of whole numbers -/
theorem sorted_its {l : Addr} {vs : List Value} {k : Value → List Int} {Q : Value → Shared → Prop} (hl : s.heap.IsList l vs.toArray) (hz : vs.length ≤ sizeLine) (hp : ∀ v ∈ vs, IsIT s.heap v (k v) ∧ k v ≠ [])
    (h : ∀ (h' : Heap) (d : Addr) (out : List Value), SrtO.Srtd (fun v u => HT.lexLt (k v) (k u)) out → SrtO.Stb (fun v u => HT.lexLt (k v) (k u)) out vs → (∀ b o, s.heap.get? b = some o → h'.get? b = some o) → s.heap.objs.size ≤ d → (∃ n, h'.get? d = some (seqObj "list" out.toArray n)) → Q (.ref d) { s with heap := h' }) :
    wpAny (model prog w) A (call (.builtin "sorted") [.ref l]) Q E s := by
  refine SrtO.sorted_ord (lexK_swo k) hl hz (fun h2 h₁ a ha kk => ?_) fun out hs hb => h _ _ out hs hb (fun b o e => sortedAll_old e) (Nat.le_succ _) (sortedAll_at s.heap vs out.toArray)
  refine its_sortable (s := { s with heap := h₁ }) (by omega) (fun v hm => ⟨(hp v hm).1.keeps fun b o e _ => (kk b o e).2, (hp v hm).2⟩) fun o e c => ?_
  have e' : some o = some (seqObj "list" vs.toArray 0) := e.symm.trans ha
  cases e'
  exact absurd (Value.type.inj c) (by decide)
end
end DL

set_option Elab.async false
set_option linter.all false
set_option maxRecDepth 100000
set_option maxHeartbeats 4000000
/-! DT: sorted, of whatever can be collected; rows of numbers as data. -/
namespace DL
open PySem PySem.Spec PyProof.Rows L2
section
variable {prog : Program} {w : World} {A : Around} {E : Value → Shared → Prop} {s : Shared}
/-- sorted(r), r whatever is collected, its things tuples of whole numbers -/
theorem sorted_gen {r : Value} {P : List Value → Shared → Prop} {k : Value → List Int} {Q : Value → Shared → Prop}
    (hc : ∀ R : List Value → Shared → Prop, (∀ s1 vs, P vs s1 → R vs s1) → wpAny (model prog w) A.in1 (collect r) R E s)
    (hP : ∀ vs s1, P vs s1 → vs.length ≤ sizeLine ∧ ∀ v ∈ vs, IsIT s1.heap v (k v) ∧ k v ≠ [])
    (h : ∀ (s1 s' : Shared) (d c : Nat) (out vs : List Value), P vs s1 → SrtO.Srtd (fun v u => HT.lexLt (k v) (k u)) out → out.Perm vs → (∀ b o, s1.heap.get? b = some o → s'.heap.get? b = some o) → s'.gens = s1.gens → s'.os = s1.os → s1.heap.objs.size ≤ d → s'.heap.get? d = some (seqObj "list" out.toArray c) → Q (.ref d) s') :
    wpAny (model prog w) A (call (.builtin "sorted") [r]) Q E s := by
  refine Calls.call_function_entry kind_sorted plain_sorted entry_sorted (args_sorted1 _) ?_
  unfold Builtin.«sorted»
  refine wpAny_bind (m := checkCount "sorted" 1 1 _) (wpAny_pure ?_)
  refine wpAny_bind (hc _ fun s1 vs pv => ?_)
  obtain ⟨hl, hv⟩ := hP vs s1 pv
  refine wpAny_bind (wpAny_newList ?_ hl)
  have hoL : (s1.heap.push (seqObj "list" vs.toArray 0)).get? s1.heap.objs.size = some (seqObj "list" vs.toArray 0) := Heap.get?_push_size _ rfl
  refine wpAny_bind (wpAny_holding (wpAny_call_entry (s := { s1 with heap := s1.heap.push (seqObj "list" vs.toArray 0) }) slot_list_sort ⟨_, hoL, rfl⟩ entry_list_sort (SrtO.list_sort_ord (s := { s1 with heap := s1.heap.push (seqObj "list" vs.toArray 0) }) (lexK_swo k) hoL hl (fun h2 => ?_) fun out hs hb => ⟨_, rfl, ?_⟩) (args_list_sort _)))
  · refine its_sortable (s := { s1 with heap := s1.heap.push (seqObj "list" vs.toArray 0) }) (by omega) (fun v hm => ⟨(hv v hm).1.keeps fun b o e _ => Heap.get?_push_of_some _ e, (hv v hm).2⟩) fun o e c => ?_
    have e' : some o = some (seqObj "list" vs.toArray 0) := e.symm.trans hoL
    cases e'
    exact absurd (Value.type.inj c) (by decide)
  · obtain ⟨c, hc'⟩ := sortedHeap_at (vs := vs) (out := out.toArray) hoL
    refine wpAny_pure ⟨_, rfl, h s1 _ _ c out vs pv hs hb.perm (fun b o e => ?_) rfl rfl (Nat.le_refl _) hc'⟩
    have hlt := Heap.lt_size e
    show (sortedHeap (s1.heap.push (seqObj "list" vs.toArray 0)) s1.heap.objs.size vs out.toArray).get? b = some o
    rw [sortedHeap_old (Nat.ne_of_lt hlt) (by rw [size_push']; exact Nat.lt_succ_of_lt hlt)]
    exact Heap.get?_push_of_some _ e
/-- a list or a tuple, collected -/
theorem collect_seq {T : String} {l : Addr} {o : Obj} {items : Array Value} {n : Nat} {Q : List Value → Shared → Prop} (hT : T = "list" ∨ T = "tuple") (ho : s.heap.get? l = some o) (hc : o.cls = .type T) (hd : o.data = .seq items n) (hz : items.size ≤ sizeLine)
    (h : ∀ h1 : Heap, (∀ b u, s.heap.get? b = some u → h1.get? b = some u) → Q items.toList { s with heap := h1 }) : wpAny (model prog w) A (collect (.ref l)) Q E s := by
  unfold collect
  refine wpAny_bind (wpAny_runValue (codeAny_builtin entry_proto_collect' ?_))
  show wpAny _ _ (do again (.builtin "list.__iadd__" ⟨[← newList [], .ref l], []⟩)) _ _ s
  refine wpAny_bind (wpAny_newList (wpAny_pure ⟨Code.quiet_builtin _ (by decide +kernel), codeAny_builtin entry_list_iadd' ?_⟩))
  have hlt := Heap.lt_size ho
  have ho' : (s.heap.push (seqObj "list" #[] 0)).get? l = some o := Heap.get?_push_of_some _ ho
  have hS : (s.heap.push (seqObj "list" #[] 0)).get? s.heap.objs.size = some (seqObj "list" #[] 0) := Heap.get?_push_size _ rfl
  show wpAny _ _ (Builtin.List.listExtendWith (.ref s.heap.objs.size) (.ref l) (.ref s.heap.objs.size)) _ _ { s with heap := s.heap.push (seqObj "list" #[] 0) }
  unfold Builtin.List.listExtendWith
  refine wpAny_bind (wpAny_typeOf (s := { s with heap := s.heap.push (seqObj "list" #[] 0) }) (T := T) ⟨o, ho', hc⟩ ?_)
  have ht : (Value.type T == Value.type "list" || Value.type T == Value.type "tuple") = true := by
    rcases hT with rfl | rfl <;> rfl
  rw [if_pos (by rw [Bool.or_assoc, ht, Bool.or_true])]
  refine wpAny_bind (listItems_at (s := { s with heap := s.heap.push (seqObj "list" #[] 0) }) ho' hd ?_)
  refine wpAny_bind (listItems_at (s := { s with heap := s.heap.push (seqObj "list" #[] 0) }) (xs := #[]) (n := 0) hS rfl ?_)
  rw [if_neg (by simp)]
  refine wpAny_bind (listUpdate_at (s := { s with heap := s.heap.push (seqObj "list" #[] 0) }) (xs := #[]) (n := 0) hS rfl ?_ (Nat.zero_le _) (by show (#[] ++ items).size ≤ sizeLine + 1; simp only [Array.size_append, List.size_toArray, List.length_nil]; omega))
  refine wpAny_pure ?_
  show wpAny (model prog w) A (do
      let o ← load s.heap.objs.size
      match o.data with
      | .seq xs _ => pure xs.toList
      | _ => unsupported "internal:collect") Q E { s with heap := (s.heap.push (seqObj "list" #[] 0)).update s.heap.objs.size (Obj.mapSeq (· ++ items)) }
  refine wpAny_bind (wpAny_load (get?_update_seq hS _) ?_)
  show wpAny _ _ (pure ((#[] : Array Value) ++ items).toList) Q E _
  rw [show ((#[] : Array Value) ++ items).toList = items.toList by simp]
  refine wpAny_pure (h _ fun b u e => ?_)
  rw [Heap.get?_update_ne _ _ _ _ (Nat.ne_of_lt (Heap.lt_size e))]
  exact Heap.get?_push_of_some _ e
end
/-! ### as a rule -/
/-- a row of numbers as an abstract value -/
def RowV (H : Hp) (x : V) (ns : List Int) : Prop := ∃ t, x = .ref t ∧ H t = some (.tup (ns.map V.int))
theorem vals_ints : ∀ (ns : List Int) (its : List Value), Vals (ns.map V.int) its → IntsAre its ns
  | [], _, .nil => .nil
  | n :: ns, _, .cons r t => by
    obtain ⟨tk, rfl⟩ := r
    exact .cons n tk (vals_ints ns _ t)
theorem its_of {prog : Program} {w : World} {H : Hp} {h : Heap} {t : Addr} {ns : List Int} (ok : HOk prog w H h) (r : H t = some (.tup (ns.map V.int))) : IsIT h (.ref t) ns := by
  obtain ⟨_, its, rv, o, ho, hc, n, hd⟩ := (show ObjOk prog w H h t (.tup (ns.map V.int)) from ok t _ r)
  exact ⟨t, o, _, n, rfl, ho, hc, hd, by simpa using vals_ints ns its rv⟩
def intV : V → Int
  | .int i => i
  | _ => 0
theorem intV_map (ns : List Int) : (ns.map V.int).map intV = ns := by
  rw [List.map_map]
  exact (List.map_congr_left (g := id) fun _ _ => rfl).trans (List.map_id _)
/-- the row that stands there -/
def rowAt (H : Hp) : Value → List Int
  | .ref a => match H a with
    | some (.tup vs) => vs.map intV
    | _ => []
  | _ => []
theorem rowAt_eq {H : Hp} {t : Addr} {ns : List Int} (h : H t = some (.tup (ns.map V.int))) : rowAt H (.ref t) = ns := by
  show (match H t with
    | some (.tup vs) => vs.map intV
    | _ => []) = ns
  rw [h]
  exact intV_map ns
/-- rows, one by one -/
theorem rows_back {H : Hp} : ∀ {xs : List V} {nss : List (List Int)} {us : List Value}, Paired (RowV H) xs nss → Vals xs us → us.map (rowAt H) = nss ∧ ∀ u ∈ us, ∃ (t : Addr) (ns : List Int), u = Value.ref t ∧ H t = some (.tup (ns.map V.int)) ∧ ns ∈ nss
  | _, _, _, .nil, .nil => ⟨rfl, fun u hu => by cases hu⟩
  | _, _, _, .cons r p, .cons rv rt => by
    obtain ⟨t, e, ht⟩ := r
    subst e
    cases rv
    obtain ⟨h1, h2⟩ := rows_back p rt
    refine ⟨by rw [List.map_cons, h1, rowAt_eq ht], fun u hu => ?_⟩
    rcases List.mem_cons.mp hu with rfl | hu
    · exact ⟨t, _, rfl, ht, List.mem_cons_self⟩
    · obtain ⟨t', ns, e1, e2, e3⟩ := h2 u hu
      exact ⟨t', ns, e1, e2, List.mem_cons_of_mem _ e3⟩
theorem rows_out {H : Hp} : ∀ {us : List Value}, (∀ u ∈ us, ∃ (t : Addr) (ns : List Int), u = Value.ref t ∧ H t = some (.tup (ns.map V.int))) → Paired (RowV H) (us.map backV) (us.map (rowAt H)) ∧ Vals (us.map backV) us
  | [], _ => ⟨.nil, .nil⟩
  | u :: us, h => by
    obtain ⟨t, ns, rfl, ht⟩ := h u List.mem_cons_self
    obtain ⟨h1, h2⟩ := rows_out fun v hv => h v (List.mem_cons_of_mem _ hv)
    exact ⟨.cons ⟨t, rfl, by rw [rowAt_eq ht]; exact ht⟩ h1, .cons rfl h2⟩
section
variable {X : Cx}
theorem inv_s1 {pins : List (Addr × Obj)} {σ : L2.St} {H : Hp} {s s' : Shared} {p : Addr} {o : HO} (I : Inv X pins σ H s) (k : ∀ b o, s.heap.get? b = some o → s'.heap.get? b = some o) (g : s'.gens = s.gens) (os : s'.os = s.os) (hp : s.heap.objs.size ≤ p) (ok : ObjOk X.prog X.w (upd H p o) s'.heap p o) : Inv X pins σ (upd H p o) s' := by
  have J : Inv X pins σ (upd H p o) { s with heap := s'.heap, gens := s'.gens, drawn := s'.drawn, toks := s'.toks } :=
    I.call (ch := []) (Un.laid k hp (I.hok.fresh hp)) (I.hok.laid k hp ok) (by rw [g]; exact I.bare) (fun _ z => nomatch z)
  have e : s' = { s with heap := s'.heap, gens := s'.gens, drawn := s'.drawn, toks := s'.toks } := by
    cases s'
    cases s
    cases os
    rfl
  rw [e]
  exact J
/-- sorted, of what is collected as rows -/
theorem sorted_run {pins : List (Addr × Obj)} {σ : L2.St} {H : Hp} {s : Shared} {r : Value} {nss : List (List Int)} {Q : VK} {P : List Value → Prop}
    (hc : ∀ R : List Value → Shared → Prop, (∀ s1 vs, P vs → Inv X pins σ H s1 → R vs s1) → wpAny (model X.prog X.w) X.A.in1 (collect r) R X.xe s)
    (hz : nss.length ≤ sizeLine) (hn : ∀ ns ∈ nss, ns ≠ []) (hP : ∀ vs, P vs → (vs.map (rowAt H)).Perm nss ∧ ∀ u ∈ vs, ∃ (t : Addr) (ns : List Int), u = Value.ref t ∧ H t = some (.tup (ns.map V.int)) ∧ ns ∈ nss)
    (q : ∀ ys p, Paired (RowV H) ys (sortR nss) → H p = none → Q (.ref p) (upd H p (.lst ys))) :
    wpAny (model X.prog X.w) X.A (call (.builtin "sorted") [r]) (EP X pins σ Q) X.xe s := by
  refine sorted_gen (k := rowAt H) (P := fun vs s1 => P vs ∧ Inv X pins σ H s1) (fun R h => hc R fun s1 vs a b => h s1 vs ⟨a, b⟩) (fun vs s1 ⟨pv, I1⟩ => ?_) fun s1 s' d c out vs ⟨pv, I1⟩ hs hb kp hg ho hd hn' => ?_
  · obtain ⟨h1, h2⟩ := hP vs pv
    refine ⟨?_, fun v hv => ?_⟩
    · have := h1.length_eq
      rw [List.length_map] at this
      omega
    · obtain ⟨t, ns, rfl, ht, hm⟩ := h2 v hv
      rw [rowAt_eq ht]
      exact ⟨its_of I1.hok ht, hn ns hm⟩
  · obtain ⟨h1, h2⟩ := hP vs pv
    obtain ⟨g1, g2⟩ := rows_out (H := H) (us := out) fun u hu => by
      obtain ⟨t, ns, e1, e2, _⟩ := h2 u (hb.mem_iff.mp hu)
      exact ⟨t, ns, e1, e2⟩
    have e : out.map (rowAt H) = sortR nss := srtR_uniq (List.pairwise_map.mpr hs) (sortR_srt nss) (((hb.map (rowAt H)).trans h1).trans (sortR_perm nss).symm)
    rw [e] at g1
    have hl : (out.map backV).length ≤ sizeLine := by
      have z1 := hb.length_eq
      have z2 := h1.length_eq
      rw [List.length_map] at z2 ⊢
      omega
    exact ⟨.ref d, _, inv_s1 (o := .lst (out.map backV)) I1 kp hg ho hd ⟨hl, out, c, g2, hn'⟩, rfl, q _ d g1 (I1.hok.fresh hd)⟩
/-- sorted(xs): a list or a tuple of rows; a dict of rows -/
def rSrt (K : PySem.W.Frag) : List V → Hp → VK → Prop := fun vs H Q => ∃ (a : Addr) (nss : List (List Int)), vs = [V.ref a] ∧ ((∃ xs, (SqL K H a xs ∨ SqT K H a xs) ∧ Paired (RowV H) xs nss) ∨ ∃ kvs : List (List L2.Key × V), Rd H a (.dT kvs) ∧ kvs.map (·.1) = nss.map fun ns => ns.map Sum.inl) ∧
  (∀ ns ∈ nss, ns ≠ []) ∧ ∀ ys p, Paired (RowV H) ys (sortR nss) → H p = none → Q (.ref p) (upd H p (.lst ys))
theorem kv_inl (ns : List Int) : (ns.map (Sum.inl (β := Str))).map kV = ns.map V.int := by
  rw [List.map_map]
  exact List.map_congr_left fun _ _ => rfl
theorem rows_keys {H : Hp} : ∀ {kvs : List (List L2.Key × V)} {bs : List Addr} {nss : List (List Int)}, IsKeys H kvs bs → kvs.map (·.1) = nss.map (fun ns => ns.map Sum.inl) → Paired (RowV H) (bs.map V.ref) nss
  | _, _, [], .nil, _ => .nil
  | _, _, n :: nss, .cons h t, e => by
    obtain ⟨e1, e2⟩ := List.cons.inj e
    refine .cons ⟨_, rfl, ?_⟩ (rows_keys t e2)
    have e3 := congrArg (fun l => l.map kV) e1
    rw [h]
    exact congrArg (fun l => some (HO.tup l)) (e3.trans (kv_inl n))
  | _, _, _ :: _, .nil, e => by cases e
  | _, _, [], .cons _ _, e => by cases e
theorem cr_srt (hcalm : X.calm = true) : CallR X (.builtin "sorted") (rSrt X.K) := by
  intro pins s σ H vs us Q I r h
  obtain ⟨a, nss, rfl, hs, hn, q⟩ := h
  obtain ⟨u, rfl, ru⟩ := vals1 r
  obtain rfl : u = Value.ref a := ru
  rcases hs with ⟨xs, hs, hr⟩ | ⟨kvs, hd, hk⟩
  · have main : ∀ (T : String) (its : List Value) (o : Obj) (n : Nat), (T = "list" ∨ T = "tuple") → Vals xs its → s.heap.get? a = some o → o.cls = .type T → o.data = .seq its.toArray n → its.length ≤ sizeLine →
        wpAny (model X.prog X.w) X.A (call (.builtin "sorted") [.ref a]) (EP X pins σ Q) X.xe s := fun T its o n hT rv ho hc hd hz => by
      obtain ⟨h1, h2⟩ := rows_back hr rv
      have hlen := congrArg List.length h1
      rw [List.length_map] at hlen
      refine sorted_run (P := fun vs => vs = its) (fun R hR => collect_seq hT ho hc hd (by simpa using hz) fun h1 k1 => ?_) (by omega) hn (fun vs e => ?_) q
      · exact hR _ _ (by simp) (I.kept (t' := s.toks) k1)
      · subst e
        exact ⟨by rw [h1], h2⟩
    rcases hs with hs | hs
    · obtain ⟨its, rv, p, hz⟩ := I.list hs
      obtain ⟨o, ho, hc, n, hd⟩ := p.isList
      exact main "list" its o n (.inl rfl) rv ho hc hd (by rw [← rv.length]; exact hz)
    · obtain ⟨its, rv, p, hz⟩ := I.tuple hs
      obtain ⟨o, ho, hc, n, hd⟩ := (show s.heap.IsTuple a its.toArray from p)
      exact main "tuple" its o n (.inr rfl) rv ho hc hd (by rw [← rv.length]; exact hz)
  · obtain ⟨z, hs, ks, pr, o, es, ep, ho, hx, hdt, he, hnn⟩ := (show ObjOk X.prog X.w H s.heap a (.dT kvs) from hd.ok I.hok)
    have l1 : es.size = ks.length := size_of_entries he
    have l2 : kvs.length = ks.length := Paired.length pr
    have l3 : kvs.length = nss.length := by
      have := congrArg List.length hk
      rwa [List.length_map, List.length_map] at this
    have rw1 := rows_keys (isKeys_of pr) hk
    obtain ⟨h1, h2⟩ := rows_back rw1 (vals_refs _)
    refine sorted_run (P := fun vs => vs = (ks.map fun x => x.2.1).map Value.ref) (fun R hR => PySem.W.kdu_collect (kdl_raw hs hx hdt) (I.ok.hd hcalm) ho (by omega) fun h' tk acc kp it => ?_) (by omega) hn (fun vs e => ?_) q
    · refine hR _ _ ?_ (I.kept kp)
      have ea : acc.toList = ks.map fun x => Value.ref x.2.1 := by
        have hl : acc.toList.length = ks.length := by rw [Array.length_toList, it.1]; exact l1
        apply List.ext_getElem?
        intro j
        rw [List.getElem?_map]
        have qe := entry_at he j
        cases hj : acc.toList[j]? with
        | none => rw [List.getElem?_eq_none (by have := List.getElem?_eq_none_iff.mp hj; omega)]; rfl
        | some v =>
          obtain ⟨en, hen, hv⟩ := it.2 j v (by rw [← Array.getElem?_toList]; exact hj)
          rw [hen] at qe
          cases hb : ks[j]? with
          | none =>
            rw [hb] at qe
            cases (show some en = none from qe)
          | some b =>
            rw [hb] at qe
            rw [hv, Option.some.inj qe]
            rfl
      rw [ea, List.map_map]
      rfl
    · subst e
      exact ⟨by rw [h1], h2⟩
end
end DL

set_option Elab.async false
set_option linter.all false
set_option maxRecDepth 100000
set_option maxHeartbeats 4000000
/-! DU: set(..) of a tuple of rows; sorted(set(..)). -/
namespace DL
open PySem PySem.Spec PyProof.Rows L2
section
variable {P : Program} {w : World} {A : Around} {E : Value → Shared → Prop} {s : Shared}
/-- the new set's object -/
def nwSet (w : World) : Obj := { cls := .type "set", dict := none, data := .set #[] 0 (.fresh 0 0 (!w.params.followText "set-order")) }
/-- set(a): made, then filled from a -/
theorem set_by {a : Value} {Q : Value → Shared → Prop} {G : Shared → Prop}
    (hf : ∀ (R : Unit → Shared → Prop), (∀ s1, G s1 → R () s1) → wpAny (model P w) A.in1.in1 (Builtin.Frozenset.updateFrom "set.__init__" s.heap.objs.size a) R E { s with heap := s.heap.push (nwSet w) })
    (h : ∀ s1, G s1 → Q (.ref s.heap.objs.size) s1) : wpAny (model P w) A (call (.type "set") [a]) Q E s := by
  obtain ⟨c, tl, hmro⟩ := F.called_set.mro
  have hmade := F.called_set.made
  have hsub := F.called_set.sub
  refine wpAny_call (codeAny_of_tree ?_)
  show wpAny _ _ (callAny (.type "set") _) _ _ _
  refine wpAny_pure ⟨Code.quiet_builtin _ (by decide +kernel), codeAny_builtin F.entry_type_call ?_⟩
  rw [Around.under_plain (weight_type_call_type "set" [a] []) rfl]
  have h1 := F.called_set.notType
  have h2 := F.called_set.canCreate
  have hct := F.typeCall_set_1 a
  repeat (any_goals (first | assumption | wp_step))
  refine codeAny_mono (code_set_led1 a (E := E) (Q₁ := fun obj s₁ => obj = .ref s.heap.objs.size ∧ s₁ = { s with heap := s.heap.push (nwSet w) }) ⟨rfl, rfl⟩) fun r s₁ hr => ?_
  cases r with
  | error e => exact hr
  | ok fl =>
    cases fl with
    | ret obj =>
      obtain ⟨rfl, rfl⟩ := hr
      have hS : (s.heap.push (nwSet w)).get? s.heap.objs.size = some (nwSet w) := Heap.get?_push_size _ rfl
      have hT : Shared.TypeIs { s with heap := s.heap.push (nwSet w) } (.ref s.heap.objs.size) "set" := ⟨_, hS, rfl⟩
      have hli := F.called_set.init.lookup
      have hbi := F.called_set.init.bind (.ref s.heap.objs.size)
      repeat (any_goals (first | assumption | wp_step))
      refine codeAny_mono (codeAny_call_builtin (R := wants (fun r s₂ => r = .none ∧ G s₂) E) F.called_set.init.plain F.entry_set_init (check_set_init_1 hT ?_)) fun r₂ s₂ hr₂ => ?_
      · unfold nwSet at hS ⊢
        unfold Builtin.«set.__init__» noKeywords
        generalize hU : Builtin.Frozenset.updateFrom = U
        wp_walk
        subst hU
        exact hf _ fun s1 g => wpAny_pure ⟨rfl, g⟩
      · cases r₂ with
        | error e => exact hr₂
        | ok fl₂ =>
          cases fl₂ with
          | ret r =>
            obtain ⟨rfl, hg⟩ := hr₂
            repeat (any_goals (first | assumption | wp_step))
            exact h _ hg
          | _ => exact hr₂.elim
    | _ => exact hr.elim
/-- a set's entries, from a tuple of tuples of numbers -/
theorem fill_tups {l S : Addr} {items : Array Value} (ks : List (Addr × List Int)) {h0 : Heap} {R : Unit → Shared → Prop} (hh : A.handled = none) (hS : S = h0.objs.size) (hs : s.heap = h0.push (nwSet w)) (hl : h0.IsTuple l items) (hit : items.toList = ks.map fun p => Value.ref p.1)
    (hk : ∀ p ∈ ks, IsT P w h0 p.2 p.1) (hfew : ks.length < 64) (hu : A.units + 1 < cLine)
    (h : ∀ (h' : Heap) (tk : Nat) L es ep t, SetTR P w h' S L es ep t → Got ks ks.length L → (∀ b o, h0.get? b = some o → h'.get? b = some o) → R () { s with heap := h', toks := tk }) :
    wpAny (model P w) A (Builtin.Frozenset.updateFrom "set.__init__" S (.ref l)) R E s := by
  obtain ⟨hp, g, d, tk0, os⟩ := s
  dsimp only at hs
  subst hs
  subst hS
  have hn : items.size = ks.length := by
    have q := congrArg List.length hit
    rwa [Array.length_toList, List.length_map] at q
  have old : ∀ (x y : Obj) b o, h0.get? b = some o → ((h0.push x).push y).get? b = some o := fun x y b o e => Heap.get?_push_of_some _ (Heap.get?_push_of_some _ e)
  have no : ∀ b, h0.objs.size ≤ b → h0.get? b = none := fun b hb => by
    cases q : h0.get? b with
    | none => rfl
    | some o => exact absurd (Heap.lt_size q) (Nat.not_lt.mpr hb)
  obtain ⟨ol, hol, hc, n, hd⟩ := id hl
  obtain ⟨oc, od, odt, osl⟩ := ol
  dsimp only at hc hd
  subst hc hd
  have hlt := Heap.lt_size hol
  have hol1 : (h0.push (nwSet w)).get? l = some ⟨.type "tuple", od, .seq items n, osl⟩ := Heap.get?_push_of_some _ hol
  have e1 := F.sub_tuple_set
  have e2 := F.sub_tuple_frozenset
  have e3 : (Value.type "tuple" == Value.type "dict") = false := by decide
  have hz : (h0.push (nwSet w)).objs.size = h0.objs.size + 1 := Heap.size_push ..
  have hl1 : (h0.push (nwSet w)).IsTuple l items := ⟨_, hol1, rfl, n, rfl⟩
  unfold Builtin.Frozenset.updateFrom
  generalize hPI : pyIter = PI
  wp_walk
  subst hPI
  refine wpAny_pyIter_tuple hl1 (wpAny_bind (wpAny_runValue ?_))
  have hne : l ≠ (h0.push (nwSet w)).objs.size := by
    rw [hz]
    exact Nat.ne_of_lt (Nat.lt_succ_of_lt hlt)
  refine set_update_tups ((Walks.tuple (by simp [hh]) _ l hne items).toS) h0.objs.size (by rw [hz]; simp only [List.mem_cons, List.not_mem_nil, or_false, not_or]; exact ⟨Nat.ne_of_lt (Nat.lt_succ_self _), Nat.ne_of_gt hlt⟩) ks hn hfew (fun i v hv => ?_) h0 hk (no _ (Nat.le_refl _)) (fun b hb => no b (by rw [List.mem_singleton.mp hb, hz]; exact Nat.le_succ _)) (by show A.units + 1 < cLine; exact hu)
    (items.size - 0) 0 _ (by omega) (Nat.zero_le _) ⟨⟨_, Heap.get?_push_size _ rfl, rfl, rfl⟩, hl1.push _⟩ (fun b o e => old _ _ b o e) ⟨[], #[], 0, _, setTR_fresh (Heap.get?_push_of_some _ (Heap.get?_push_size _ rfl)), Got.zero ks⟩ fun s' L es ep t hm R' g' kp => ?_
  · have q : items.toList[i]? = some v := by rw [Array.getElem?_toList]; exact hv
    rw [hit, List.getElem?_map] at q
    cases z : ks[i]? with
    | none =>
      rw [z] at q
      cases q
    | some p =>
      rw [z] at q
      exact ⟨p, rfl, (Option.some.inj q).symm⟩
  · obtain ⟨h', g2, d', tk', os'⟩ := s'
    have eg : g2 = g := hm.gens
    have ed : d' = d := hm.drawn
    have eo : os' = os := hm.os
    subst eg ed eo
    rw [hn] at g'
    exact wpAny_pure (h h' tk' L es ep t R' g' kp)
end
section
variable {X : Cx}
/-- set(xs), xs a tuple of rows -/
def rSetT2 (K : PySem.W.Frag) (P : Program) (w : World) : List V → Hp → VK → Prop := fun xs H Q => ∃ (l : Addr) (ks : List (Addr × List Int)), xs = [V.ref l] ∧ SqT K H l (ks.map fun p => V.ref p.1) ∧ (∀ p ∈ ks, SqT K H p.1 (p.2.map V.int)) ∧ ks.length < 64 ∧
  ∀ a L, H a = none → (∀ p ∈ L, p ∈ ks) → (∀ p ∈ ks, p.2 ∈ L.map (·.2)) → (L.map (·.2)).Nodup → Q (.ref a) (upd H a (SetTO P w a L))
theorem cr_setT2 (hc : X.calm = true) (hu : X.A.units + 64 < cLine) : CallR X (.type "set") (rSetT2 X.K X.prog X.w) := by
  intro pins s σ H xs us Q I r h
  obtain ⟨l, ks, rfl, hl, hk, hf, q⟩ := h
  rw [Vals.ref1 r]
  obtain ⟨its, rv, pl, hz⟩ := I.tuple hl
  have hn : H s.heap.objs.size = none := I.hok.fresh (Nat.le_refl _)
  refine set_by (G := fun s1 => ∃ (h' : Heap) (tk : Nat) (L : List (Addr × List Int)) (es : Array (Int × Value)) (ep : Nat) (t : SetTable), s1 = { s with heap := h', toks := tk } ∧ SetTR X.prog X.w h' s.heap.objs.size L es ep t ∧ Got ks ks.length L ∧ ∀ b o, s.heap.get? b = some o → h'.get? b = some o) (fun R hR => ?_) fun s1 ⟨h', tk, L, es, ep, t, e, R, g, k⟩ => ?_
  · refine fill_tups (S := s.heap.objs.size) (items := its.toArray) ks (h0 := s.heap) (by show X.A.handled = none; exact I.ok.hd hc) rfl rfl (show s.heap.IsTuple l its.toArray from pl) (by simpa using refs_of_vals rv) (fun p hp => I.isT (hk p hp)) hf (by show X.A.units + 2 + 1 < cLine; omega) fun h' tk L es ep t R' g k => ?_
    exact hR _ ⟨h', tk, L, es, ep, t, rfl, R', g, k⟩
  · subst e
    refine ⟨.ref s.heap.objs.size, upd H s.heap.objs.size (SetTO X.prog X.w s.heap.objs.size L), I.laid (t' := tk) k (Nat.le_refl _) (setTO_new R.t0), rfl, q _ L hn (fun p hp => ?_) (fun p hp => ?_) R.nd⟩
    · exact List.mem_of_mem_take (g.sub p hp)
    · exact g.all p (by rw [List.take_length]; exact hp)
/-- set(xs), xs a list of rows -/
def rSetL2 (K : PySem.W.Frag) (P : Program) (w : World) : List V → Hp → VK → Prop := fun xs H Q => ∃ (l : Addr) (ks : List (Addr × List Int)), xs = [V.ref l] ∧ SqL K H l (ks.map fun p => V.ref p.1) ∧ (∀ p ∈ ks, SqT K H p.1 (p.2.map V.int)) ∧ ks.length < 64 ∧
  ∀ a L, H a = none → (∀ p ∈ L, p ∈ ks) → (∀ p ∈ ks, p.2 ∈ L.map (·.2)) → (L.map (·.2)).Nodup → Q (.ref a) (upd H a (SetTO P w a L))
theorem cr_setL2 (hc : X.calm = true) (hu : X.A.units + 64 < cLine) : CallR X (.type "set") (rSetL2 X.K X.prog X.w) := by
  intro pins s σ H xs us Q I r h
  obtain ⟨l, ks, rfl, hl, hk, hf, q⟩ := h
  rw [Vals.ref1 r]
  obtain ⟨its, rv, pl, hz⟩ := I.list hl
  have hn : H s.heap.objs.size = none := I.hok.fresh (Nat.le_refl _)
  refine call_set_tups (P := X.prog) (w := X.w) ks (I.ok.hd hc) pl.isList (by simpa using refs_of_vals rv) (fun p hp => I.isT (hk p hp)) hf (by omega) fun h' tk L es ep t R g k => ?_
  refine ⟨.ref s.heap.objs.size, upd H s.heap.objs.size (SetTO X.prog X.w s.heap.objs.size L), I.laid (t' := tk) k (Nat.le_refl _) (setTO_new R.t0), rfl, q _ L hn (fun p hp => ?_) (fun p hp => ?_) R.nd⟩
  · exact List.mem_of_mem_take (g.sub p hp)
  · exact g.all p (by rw [List.take_length]; exact hp)
/-- sorted(set) -/
def rSrtS (P : Program) (w : World) : List V → Hp → VK → Prop := fun vs H Q => ∃ (a : Addr) (L : List (Addr × List Int)), vs = [V.ref a] ∧ H a = some (SetTO P w a L) ∧ (∀ p ∈ L, H p.1 = some (.tup (p.2.map V.int)) ∧ p.2 ≠ []) ∧ ∀ ys p, Paired (RowV H) ys (sortR (L.map (·.2))) → H p = none → Q (.ref p) (upd H p (.lst ys))
theorem cr_srtS (hc : X.calm = true) : CallR X (.builtin "sorted") (rSrtS X.prog X.w) := by
  intro pins s σ H vs us Q I r h
  obtain ⟨a, L, rfl, ha, hk, q⟩ := h
  have R0 : SetT0 X.prog X.w s.heap a L := (I.hok a _ ha).1
  obtain ⟨es, ep, t, R⟩ := R0.full fun p hp => I.isT (.inl (.inl (hk p hp).1))
  obtain ⟨o, ho, hex, hd⟩ := R.ob
  have hsz := R.size
  have hfew := R.few
  rw [Vals.ref1 r]
  have hes : es.toList.map (·.2) = L.map fun q => Value.ref q.1 := by
    rw [R.rows]
    unfold rowsOf
    rw [List.map_map]
    rfl
  refine sorted_run (nss := L.map (·.2)) (P := fun vs => vs.Perm (L.map fun q => Value.ref q.1)) (fun RR hR => collect_set (A := X.A.in1) (I.ok.hd hc) ⟨o, ho, hex.1, hd⟩ R.fits (by unfold scanBound; omega) R.tab.ris R.led fun s1 vs k1 hz g1 o1 pm => ?_) (by rw [List.length_map, sizeLine_eq]; omega) (fun ns hm => ?_) (fun vs pm => ?_) q
  · rw [hes] at pm
    refine hR s1 vs pm ?_
    exact I.call' (ch := []) o1 (Un.kept k1) (I.hok.kept k1) (by rw [g1]; exact I.bare) (fun _ z => nomatch z)
  · obtain ⟨p, hp, rfl⟩ := List.mem_map.mp hm
    exact (hk p hp).2
  · have e : (L.map fun q => Value.ref q.1).map (rowAt H) = L.map (·.2) := by
      rw [List.map_map]
      exact List.map_congr_left fun p hp => rowAt_eq (hk p hp).1
    refine ⟨by rw [← e]; exact pm.map _, fun u hu => ?_⟩
    obtain ⟨p, hp, rfl⟩ := List.mem_map.mp (pm.mem_iff.mp hu)
    exact ⟨p.1, p.2, rfl, (hk p hp).1, List.mem_map.mpr ⟨p, hp, rfl⟩⟩
end
end DL

set_option Elab.async false
set_option linter.all false
set_option maxRecDepth 100000
set_option maxHeartbeats 4000000
/-! DJ: max of a tuple; a tuple once; a tuple turned about. -/
namespace DL
open PySem PySem.Spec PyProof.Rows L2
theorem fm_congr {α β : Type} {f g : α → Option β} : ∀ l : List α, (∀ x ∈ l, f x = g x) → l.filterMap f = l.filterMap g
  | [], _ => rfl
  | x :: l, h => by
    rw [List.filterMap_cons, List.filterMap_cons, h x List.mem_cons_self, fm_congr l fun y hy => h y (List.mem_cons_of_mem _ hy)]
section
variable {prog : Program} {w : World} {A : Around} {E : Value → Shared → Prop} {s : Shared}
theorem max_tupI {l : Addr} {its : List Value} {ns : List Int} {Q : Value → Shared → Prop} (hh : A.handled = none) (hl : s.heap.IsTuple l its.toArray) (hi : IntsAre its ns) (hne : 0 < ns.length)
    (h : ∀ (h' : Heap) (tk : Nat) (m : Int) (t' : Tok), (∀ b o, s.heap.get? b = some o → h'.get? b = some o) → m ∈ ns → (∀ a, a ∈ ns → a ≤ m) → Q (.int m t') { s with heap := h', toks := tk }) : wpAny (model prog w) A (call (.builtin "max") [.ref l]) Q E s := by
  obtain ⟨xs, e⟩ := hi.allInts.items
  have hn : numsOf (intItems xs).toList = ns := by rw [← e]; exact hi.numsOf
  rw [nums_intItems] at hn
  subst hn
  rw [e] at hl
  have hsz : 0 < xs.size := by simpa using hne
  have hlt : l < s.heap.objs.size := by
    obtain ⟨_, q, _⟩ := id hl
    exact Heap.lt_size q
  refine call_max_walk (wpAny_pyIter_tuple hl ⟨_, [s.heap.objs.size, l], [s.heap.objs.size], _, _, _, _, rfl, Walks.tuple (A := A.in1) hh _ l (Nat.ne_of_lt hlt) (intItems xs), ⟨⟨_, Heap.get?_push_size _ rfl, rfl, rfl⟩, hl.push _⟩, fun b hb => ?_, by simpa [intItems] using hsz, CmpOf.ints_gt (numAt xs) (fun _ _ => intItems_at), fun v h' tk hP hk => ?_⟩)
  · show b < (s.heap.push _).objs.size
    rw [Heap.size_push]
    rcases List.mem_cons.mp hb with rfl | hb
    · exact Nat.lt_succ_self _
    · rw [List.mem_singleton.mp hb]
      exact Nat.lt_succ_of_lt hlt
  · have hv : (intItems xs)[argBest (fun i j => decide (numAt xs i > numAt xs j)) (xs.size - 1)]? = some v := by simpa [intItems] using hP
    obtain ⟨t, rfl⟩ := intItems_at hv
    obtain ⟨h1, h2⟩ := argBest_gt (numAt xs) (xs.size - 1)
    refine h h' tk _ t (fun b o q => hk b o (fun hm => ?_) (Heap.get?_push_of_some _ q)) ?_ fun a ha => ?_
    · rw [List.mem_singleton.mp hm] at q
      exact absurd (Heap.lt_size q) (Nat.lt_irrefl _)
    · rw [numAt_eq]
      exact PySem.getD_mem (by rw [List.length_map, Array.length_toList]; omega)
    · obtain ⟨j, hj, rfl⟩ := mem_getD ha
      rw [List.length_map, Array.length_toList] at hj
      rw [← numAt_eq]
      exact h2 j (by omega)
/-- t[::-1] -/
theorem sliceApplied_rev {sl : Addr} {vs : Value} {n : Nat} {Q : Int × Int × Nat → Shared → Prop} (hs : s.heap.IsSliceOf sl .none .none vs) (ps : IsPart vs (some (-1)))
    (h : Q ((n : Int) - 1, -1, n) s) : wpAny (model prog w) A (Builtin.Slice.sliceApplied (.ref sl) (pure (n : Int))) Q E s := by
  obtain ⟨os, hos, hcs, hds⟩ := id hs
  unfold Builtin.Slice.sliceApplied Builtin.Slice.sliceFields
  refine wpAny_bind (wpAny_bind (wpAny_field hos hds (x := .none) rfl (wpAny_bind (wpAny_field hos hds (x := .none) rfl (wpAny_bind (wpAny_field hos hds (x := vs) rfl (wpAny_pure ?_)))))))
  refine wpAny_bind (HT.slicePart_ ps ?_)
  show wpAny _ _ (if ((-1 : Int) == 0) = true then _ else _) _ _ s
  rw [if_neg (by decide)]
  refine wpAny_bind (HT.slicePart_ .none (wpAny_bind (HT.slicePart_ .none (wpAny_bind (wpAny_pure ?_)))))
  show wpAny _ _ (match Builtin.Slice.sliceAdjust none none (-1) (n : Int) with | (lo, hi) => pure (lo, (-1 : Int), Builtin.Slice.slicePlaces lo hi (-1))) _ _ s
  have e : Builtin.Slice.sliceAdjust none none (-1) (n : Int) = ((n : Int) - 1, -1) := rfl
  rw [e]
  show wpAny _ _ (pure ((n : Int) - 1, (-1 : Int), Builtin.Slice.slicePlaces ((n : Int) - 1) (-1) (-1))) _ _ s
  have e2 : Builtin.Slice.slicePlaces ((n : Int) - 1) (-1) (-1) = n := by
    unfold Builtin.Slice.slicePlaces
    rw [if_neg (by decide)]
    by_cases hn : n = 0
    · subst hn
      rfl
    · rw [if_pos (by omega)]
      have : ((n : Int) - 1 - -1 - 1) / (- -1) + 1 = (n : Int) := by
        rw [show (- -1 : Int) = 1 from rfl, Int.ediv_one]
        omega
      rw [this]
      rfl
  rw [e2]
  exact wpAny_pure h
theorem pick_rev (xs : Array Value) : ((List.range xs.size).filterMap fun (m : Nat) => xs[(((xs.size : Int) - 1) + (m : Int) * (-1)).toNat]?).toArray = xs.toList.reverse.toArray := by
  have e : ((List.range xs.size).filterMap fun (m : Nat) => xs[(((xs.size : Int) - 1) + (m : Int) * (-1)).toNat]?) = (((List.range xs.size).map fun k => xs.size - 1 - k).filterMap fun m => xs[m]?) := by
    rw [List.filterMap_map]
    refine fm_congr _ fun m hm => ?_
    have := List.mem_range.mp hm
    have z : (((xs.size : Int) - 1) + (m : Int) * (-1)).toNat = xs.size - 1 - m := by omega
    rw [z]
    rfl
  rw [e, PySem.W.krv_range, List.filterMap_reverse, PySem.W.krv_all]
theorem getItem_tuple_rev {t sl : Addr} {items : Array Value} {vs : Value} {Q : Value → Shared → Prop} (ht : IsTup s.heap t items) (hs : s.heap.IsSliceOf sl .none .none vs) (ps : IsPart vs (some (-1)))
    (h : Q (.ref s.heap.objs.size) { s with heap := s.heap.push { cls := .type "tuple", data := .seq items.toList.reverse.toArray } }) (hsz : items.size ≤ sizeLine) : wpAny (model prog w) A (getItem (.ref t) (.ref sl)) Q E s := by
  have hz : sizeOk (.seq items.toList.reverse.toArray) := by
    show items.toList.reverse.toArray.size ≤ sizeLine
    rw [List.size_toArray, List.length_reverse, Array.length_toList]
    exact hsz
  obtain ⟨os, hos, hcs, hds⟩ := id hs
  have hTs : s.TypeIs (.ref sl) "slice" := ⟨os, hos, hcs⟩
  unfold getItem
  try with_reducible refine wpAny_holding ?_
  first | refine wpAny_bind (wpAny_pure ?_) | skip
  refine wpAny_bind (wpAny_sequenceKey ht.typeIs (by decide) ?_)
  refine wpAny_bind (wpAny_callSpecial?_slot (name := Str.ofString "__getitem__") ht.typeIs PyProof.Rows.slot_tuple_getitem (wpAny_call_entry PyProof.Rows.slot_tuple_getitem ht.typeIs entry_tuple_getitem ?_ (args_tuple_getitem _ _)))
  show wpAny _ _ (Builtin.Tuple.tupleItemsOf (.ref t) >>= _) _ _ s
  refine wpAny_bind (PyProof.Rows.tupleItemsOf_ ht ?_)
  refine wpAny_bind (wpAny_typeOf hTs ?_)
  rw [if_pos (by decide)]
  refine wpAny_bind (sliceApplied_rev hs ps ?_)
  show wpAny _ _ (if ((((items.size : Int) - 1) == 0 && (-1 : Int) == 1 && items.size == items.size) = true) then _ else _) _ _ s
  rw [if_neg (by simp), pick_rev]
  first
    | exact wpAny_bind (m := Builtin.Tuple.tupleExact _) (wpAny_newObj_type (wpAny_pure ⟨_, rfl, wpAny_pure h⟩) hz)
    | exact wpAny_bind (m := Builtin.Tuple.tupleExact _) (wpAny_newObj_type (wpAny_bind (wpAny_pure (wpAny_pure ⟨_, rfl, wpAny_pure h⟩))) hz)
    | exact wpAny_bind (wpAny_bind (m := Builtin.Tuple.tupleExact _) (wpAny_newObj_type (wpAny_pure (wpAny_pure ⟨_, rfl, wpAny_pure h⟩)) hz))
    | exact wpAny_bind (wpAny_bind (m := Builtin.Tuple.tupleExact _) (wpAny_newObj_type (wpAny_pure ⟨_, rfl, wpAny_pure h⟩) hz))
theorem tuple_mul1 (l : Addr) (items : Array Value) (n : Nat) (dd : Option Addr) (sl : Array (Option Value)) (u : Tok) :
    Meets (Builtin.«tuple.__mul__» ⟨[.ref l, .int 1 u], []⟩) (fun _ R s => s.heap.get? l = some { cls := .type "tuple", dict := dd, data := .seq items n, slots := sl } ∧ R (.ok (.ret (Value.ref l))) s) :=
  .of_wp fun prog w A R s h => by
    obtain ⟨hp, g, d, tk, os⟩ := s
    obtain ⟨hl, h⟩ := h
    have f1 := AutoSeq1.idx_int
    wp_walk using wpAny_loadPart' hl
    repeat (first
      | (refine wpAny_ite_false (by decide) ?_; wp_walk using wpAny_loadPart' hl)
      | (refine wpAny_ite_true (by simp) ?_; wp_walk using wpAny_loadPart' hl))
    all_goals exact ⟨_, rfl, h⟩
end
end DL

set_option Elab.async false
set_option linter.all false
set_option maxRecDepth 100000
set_option maxHeartbeats 4000000
/-! DK: dict(..) of a list of pairs whose keys are tuples; more rules of calls. -/
namespace DL
open PySem PySem.Spec PyProof.Rows L2
section
variable {prog : Program} {w : World} {A : Around} {E : Value → Shared → Prop}
abbrev TK (prog : Program) (w : World) := tupleKind (mixKind prog w)
theorem tk_keep {h h' : Heap} {k : List L2.Key} {b : Addr} (x : (TK prog w).is h k b) (hk : ∀ c o, h.get? c = some o → h'.get? c = some o) : (TK prog w).is h' k b := by
  obtain ⟨o, items, n, ho, r⟩ := x
  exact ⟨o, items, n, hk b o ho, r⟩
/-- a pair of such a list: where it stands, its key, where that stands, its value -/
abbrev PT := Addr × List L2.Key × Addr × Value
def addT (acc : List (List L2.Key × Addr × Value)) (l : List PT) : List (List L2.Key × Addr × Value) := l.foldl (fun a q => storedH a q.2.1 q.2.2.1 q.2.2.2) acc
theorem storedH_len (acc : List (List L2.Key × Addr × Value)) (k : List L2.Key) (b : Addr) (v : Value) : (storedH acc k b v).length ≤ acc.length + 1 := by
  unfold storedH
  split
  · rw [List.length_map]
    omega
  · rw [List.length_append]
    simp
theorem storedH_mem {P : List L2.Key → Addr → Prop} {acc : List (List L2.Key × Addr × Value)} {k : List L2.Key} {b : Addr} {v : Value} (h : ∀ x ∈ acc, P x.1 x.2.1) (hb : P k b) : ∀ x ∈ storedH acc k b v, P x.1 x.2.1 := fun x hx => by
  unfold storedH at hx
  split at hx
  · obtain ⟨y, hy, rfl⟩ := List.mem_map.mp hx
    unfold putAt
    split
    · exact h y hy
    · exact h y hy
  · rcases List.mem_append.mp hx with hx | hx
    · exact h x hx
    · rw [List.mem_singleton.mp hx]
      exact hb
theorem updT {R : Result → Shared → Prop} {h0 : Heap} {S I l : Addr} {items : Array Value} {res : Value} (hh : A.handled = none) (hu : A.units + 1 < cLine) (nS : h0.get? S = none) (nI : h0.get? I = none) (hSI : S ≠ I) (hl : h0.IsList l items) :
    ∀ (rest : List PT) (i : Nat) (acc : List (List L2.Key × Addr × Value)) (ix : Int) (t : Tok) (s : Shared), items.size = i + rest.length → acc.length + rest.length ≤ sizeLine →
      (∀ (j : Nat) (q : PT), rest[j]? = some q → items[i + j]? = some (.ref q.1) ∧ IsTup h0 q.1 #[.ref q.2.2.1, q.2.2.2] ∧ (TK prog w).is h0 q.2.1 q.2.2.1) →
      (∀ b o, h0.get? b = some o → s.heap.get? b = some o) → (∀ x ∈ acc, (TK prog w).is h0 x.1 x.2.1) →
      s.heap.IsListIter I l i → s.heap.DictOfH (TK prog w) S acc →
      (∀ h' tk, h'.DictOfH (TK prog w) S (addT acc rest) → (∀ b o, h0.get? b = some o → h'.get? b = some o) → R (.ok (.ret res)) { s with heap := h', toks := tk }) →
      codeAny (model prog w) A (.builtin "dict.update.loop" ⟨[.ref S, .ref I, .int ix t, res], []⟩) R s
  | [], i, acc, ix, t, s, hsz, hln, ht, kp, hk, hit, hm, hR => by
    refine codeAny_builtin ud_entry ?_
    rw [Around.under_plainId ud_plain _]
    show wpAny _ A.in1 (pyNext (.ref I) >>= _) _ _ s
    have hl1 : s.heap.IsList l items := hl.at fun o e => kp _ o e
    refine wpAny_bind (wpAny_pyNext_list_end (A := A.in1) hh hit hl1 (Array.getElem?_eq_none (Nat.le_of_eq hsz)) fun h' he => ?_)
    show wpAny _ A.in1 (Builtin.Dict.addKeywords S [] >>= _) _ _ _
    refine wpAny_bind (wpAny_pure (wpAny_pure ?_))
    have kp' : ∀ b o, h0.get? b = some o → h'.get? b = some o := fun b o e => he b o (fun q => by rw [q, nI] at e; cases e) (kp b o e)
    refine hR h' s.toks ?_ kp'
    obtain ⟨o, es, ep, e1, e2, e3, e4, e5, e6⟩ := hm
    exact ⟨o, es, ep, he S o hSI e1, e2, e3, e4, fun x hx => tk_keep (hk x hx) kp', e6⟩
  | q :: rest, i, acc, ix, t, s, hsz, hln, ht, kp, hk, hit, hm, hR => by
    obtain ⟨hb, htup, hkey⟩ := ht 0 q rfl
    rw [List.length_cons] at hsz hln
    have hl1 : s.heap.IsList l items := hl.at fun o e => kp _ o e
    refine codeAny_builtin ud_entry ?_
    rw [Around.under_plainId ud_plain _]
    show wpAny _ A.in1 (pyNext (.ref I) >>= _) _ _ s
    refine wpAny_bind (wpAny_pyNext_list_item (x := .ref q.1) hit hl1 (by simpa using hb) fun h1 hit1 hs1 => ?_)
    have kp1 : ∀ b o, h0.get? b = some o → h1.get? b = some o := fun b o e => (hs1.2 b (fun q => by rw [q, nI] at e; cases e)).trans (kp b o e)
    have ht1 : IsTup h1 q.1 #[.ref q.2.2.1, q.2.2.2] := htup.keeps kp1
    have hm1 : h1.DictOfH (TK prog w) S acc := by
      obtain ⟨o, es, ep, e1, e2, e3, e4, e5, e6⟩ := hm
      exact ⟨o, es, ep, (hs1.2 S hSI).trans e1, e2, e3, e4, fun x hx => tk_keep (hk x hx) kp1, e6⟩
    obtain ⟨o, ho, hc, n, hd⟩ := id ht1
    show wpAny _ A.in1 (holding [Value.ref q.1] _ >>= _) _ _ _
    refine wpAny_bind (wpAny_holding ?_)
    refine wpAny_bind (wpAny_tryCatch ?_)
    unfold Builtin.Dict.pairItems
    refine wpAny_bind (wpAny_typeOf (T := "tuple") ⟨o, ho, hc⟩ ?_)
    rw [if_pos (by first | decide | rfl | simp)]
    refine wpAny_bind (wpAny_seqItems ho hd (wpAny_pure ?_))
    show wpAny _ A.in1 (holding [Value.ref q.2.2.1, q.2.2.2] (dictSet S (.ref q.2.2.1) q.2.2.2)) _ _ _
    refine wpAny_holding (wpAny_dictSet_heap (hsz := by omega) (knd := TK prog w) (k := q.2.1) (tupleKind_room_in1 hu) (tk_keep hkey kp1) hm1 fun h2 hm2 hs2 => ?_)
    have kp2 : ∀ b o, h0.get? b = some o → h2.get? b = some o := fun b o e => (hs2.2 b (fun q => by rw [q, nS] at e; cases e)).trans (kp1 b o e)
    refine wpAny_pure ⟨plainId_quiet ud_plain _, updT hh hu nS nI hSI hl rest (i + 1) (storedH acc q.2.1 q.2.2.1 q.2.2.2) (ix + 1) 0 _ (show items.size = i + 1 + rest.length by omega) ?_ (fun j q' e => ?_) kp2 (storedH_mem (P := fun k b => (TK prog w).is h0 k b) hk hkey) ?_ hm2 fun h' tk hd' k => ?_⟩
    · have z := storedH_len acc q.2.1 q.2.2.1 q.2.2.2
      omega
    · have z := ht (j + 1) q' (by simpa using e)
      rw [show i + 1 + j = i + (j + 1) by omega]
      exact z
    · exact hit1.at fun o' e => (hs2.2 I (Ne.symm hSI)).trans e
    · exact hR h' tk hd' k
/-- dict(l) -/
theorem dict_pairsT {s : Shared} {l : Addr} {ol : Obj} {items : Array Value} {n : Nat} {prs : List PT} {Q : Value → Shared → Prop} (hh : A.handled = none) (hu : A.units + 8 < cLine) (hl : s.heap.get? l = some ol) (hc : ol.cls = .type "list") (hd : ol.dict = none)
    (hdat : ol.data = .seq items n) (hsz : items.size = prs.length) (hln : prs.length ≤ sizeLine)
    (ht : ∀ (j : Nat) (q : PT), prs[j]? = some q → items[j]? = some (.ref q.1) ∧ IsTup s.heap q.1 #[.ref q.2.2.1, q.2.2.2] ∧ (TK prog w).is s.heap q.2.1 q.2.2.1)
    (h : ∀ h' tk, h'.DictOfH (TK prog w) s.heap.objs.size (addT [] prs) → (∀ b o, s.heap.get? b = some o → h'.get? b = some o) → Q (.ref s.heap.objs.size) { s with heap := h', toks := tk }) :
    wpAny (model prog w) A (call (.type "dict") [.ref l]) Q E s := by
  refine callType_codes (Q₁ := fun obj s₁ => obj = .ref s.heap.objs.size ∧ s₁ = { s with heap := s.heap.push { cls := .type "dict", data := .dict #[] } }) PySem.F.kt_called_dict (PySem.F.kt_typeCall_dict_1 _) PySem.F.entry_dict_init (kt_code_dict_new _ ⟨rfl, rfl⟩) ?_
  rintro obj s₁ ⟨rfl, rfl⟩
  have hnew : (s.heap.push { cls := .type "dict", data := .dict #[] }).DictOfH (TK prog w) s.heap.objs.size [] := Heap.DictOfH.new s.heap
  have k0 : ∀ b o, s.heap.get? b = some o → (s.heap.push { cls := .type "dict", data := .dict #[] }).get? b = some o := fun b o e => Heap.get?_push_of_some _ e
  refine ⟨hnew.typeIs, PySem.F.args_dict_init_2 _ _, ?_⟩
  unfold Builtin.«dict.__init__»
  refine wpAny_bind ?_
  unfold Builtin.Dict.selfAndRest
  refine wpAny_bind (wpAny_notOrdered_dict hnew.typeIs ?_)
  show wpAny _ _ (pure (s.heap.objs.size, [Value.ref l])) _ _ _
  refine wpAny_pure ?_
  show wpAny _ _ (Builtin.Dict.updateFrom "dict.__init__" s.heap.objs.size (.ref l) [] .none) _ _ _
  unfold Builtin.Dict.updateFrom
  refine wpAny_bind (wpAny_typeOf (T := "list") ⟨ol, k0 _ _ hl, hc⟩ ?_)
  rw [if_pos (by first | decide | rfl | simp)]
  refine wpAny_bind (miss_list (k0 _ _ hl) hc hdat hd hh fun h1 tk1 hk1 => ?_)
  rw [if_pos (show (none : Option Value).isNone = true from rfl)]
  refine wpAny_bind (wpAny_rule ?_)
  have hl0 : s.heap.IsList l items := ⟨ol, hl, hc, n, hdat⟩
  have hl1 : h1.IsList l items := hl0.at fun o e => hk1 _ _ (k0 _ _ e)
  obtain ⟨o1, es1, ep1, hS, d1, d2, d3, d4, d5⟩ := id hnew
  have hS1 : s.heap.objs.size < h1.objs.size := Heap.lt_size (hk1 _ _ hS)
  have no : ∀ b, s.heap.objs.size ≤ b → s.heap.get? b = none := fun b hb => by
    cases q : s.heap.get? b with
    | none => rfl
    | some o => exact absurd (Heap.lt_size q) (Nat.not_lt.mpr hb)
  refine wpAny_bind (wpAny_pyIter_list hl1 ?_)
  have k2 : ∀ b o, h1.get? b = some o → (h1.push { cls := .type "list_iterator", data := .fields #[.ref l, .int 0 0] }).get? b = some o := fun b o e => Heap.get?_push_of_some _ e
  have key := updT (prog := prog) (w := w) (A := A.in1) (R := wants (fun r s₂ => r = .none ∧ Q (.ref s.heap.objs.size) s₂) E) (h0 := s.heap) (S := s.heap.objs.size) (I := h1.objs.size) (l := l) (items := items) (res := Value.none) hh (by show A.units + 1 + 1 < cLine; omega)
    (no _ (Nat.le_refl _)) (no _ (Nat.le_of_lt hS1)) (Nat.ne_of_lt hS1) hl0 prs 0 [] 0 0
    { s with heap := h1.push { cls := .type "list_iterator", data := .fields #[.ref l, .int 0 0] }, toks := tk1 } (by rw [hsz, Nat.zero_add]) (by rw [List.length_nil, Nat.zero_add]; exact hln)
    (fun j q e => by
      rw [Nat.zero_add]
      exact ht j q e)
    (fun b o e => k2 _ _ (hk1 _ _ (k0 _ _ e))) (fun x hx => by cases hx)
    ⟨_, Heap.get?_push_size _ rfl, rfl, rfl⟩ ⟨o1, es1, ep1, k2 _ _ (hk1 _ _ hS), d1, d2, d3, (fun x hx => by cases hx), d5⟩
    (fun h' tk hd' k => ⟨rfl, h h' tk hd' k⟩)
  first
    | exact wpAny_pure ⟨plainId_quiet ud_plain _, key⟩
    | exact wpAny_bind (wpAny_pure (wpAny_pure ⟨plainId_quiet ud_plain _, key⟩))
end
section
variable {X : Cx}
/-- pairs (key, value), the keys tuples -/
def PairT (H : Hp) (p : Addr) (q : List L2.Key × V) : Prop := ∃ b, H p = some (.tup [.ref b, q.2]) ∧ H b = some (.tup (q.1.map kV))
def addK (l : List (List L2.Key × V)) : List (List L2.Key × V) := l.foldl (fun a q => putK a q.1 q.2) []
theorem addK_run {H : Hp} : ∀ {l : List (List L2.Key × V)} {prs : List PT} {acc : List (List L2.Key × V)} {xs : List (List L2.Key × Addr × Value)}, KT H acc xs →
    Paired (fun (q : List L2.Key × V) (p : PT) => p.2.1 = q.1 ∧ H p.2.2.1 = some (.tup (q.1.map kV)) ∧ RelV q.2 p.2.2.2) l prs → KT H (l.foldl (fun a q => putK a q.1 q.2) acc) (addT xs prs)
  | _, _, _, _, h, .nil => h
  | _, _, acc, xs, h, .cons (a := q) (b := p) ⟨e, hb, rv⟩ t => by
    have z : KT H (putK acc q.1 q.2) (storedH xs p.2.1 p.2.2.1 p.2.2.2) := by
      rw [e]
      exact h.put _ hb rv
    exact addK_run (acc := putK acc q.1 q.2) (xs := storedH xs p.2.1 p.2.2.1 p.2.2.2) z t
theorem addK_len : ∀ (l : List (List L2.Key × V)) (acc : List (List L2.Key × V)), (l.foldl (fun a q => putK a q.1 q.2) acc).length ≤ acc.length + l.length
  | [], acc => Nat.le_refl _
  | q :: l, acc => by
    have h1 := addK_len l (putK acc q.1 q.2)
    have h2 := length_putK acc q.1 q.2
    rw [List.length_cons]
    show (l.foldl (fun a q => putK a q.1 q.2) (putK acc q.1 q.2)).length ≤ _
    omega
theorem pairsT_of {pins : List (Addr × Obj)} {σ : L2.St} {H : Hp} {s : Shared} (I : Inv X pins σ H s) : ∀ {ps : List Addr} {kvs : List (List L2.Key × V)}, Paired (PairT H) ps kvs →
    ∃ prs : List PT, Paired (fun (q : List L2.Key × V) (p : PT) => p.2.1 = q.1 ∧ H p.2.2.1 = some (.tup (q.1.map kV)) ∧ RelV q.2 p.2.2.2) kvs prs ∧ prs.map (·.1) = ps ∧ ∀ p ∈ prs, IsTup s.heap p.1 #[.ref p.2.2.1, p.2.2.2] ∧ (TK X.prog X.w).is s.heap p.2.1 p.2.2.1
  | _, _, .nil => ⟨[], .nil, rfl, fun j e => by cases e⟩
  | _, _, .cons (a := p) (b := kv) h t => by
    obtain ⟨prs, r, hl, hp⟩ := pairsT_of I t
    obtain ⟨b, h1, h2⟩ := h
    obtain ⟨_, its, rv, hT⟩ := (show ObjOk X.prog X.w H s.heap p (.tup [.ref b, kv.2]) from I.hok p _ h1)
    obtain ⟨u, y, rfl, ru, ry⟩ := vals2 rv
    cases ru
    refine ⟨(p, kv.1, b, y) :: prs, .cons ⟨rfl, h2, ry⟩ r, by rw [List.map_cons, hl], fun q hq => ?_⟩
    rcases List.mem_cons.mp hq with rfl | hq
    · exact ⟨hT, key_of I.hok h2⟩
    · exact hp q hq
/-- dict(xs), xs a list of pairs, their keys tuples -/
def rDctT (K : PySem.W.Frag) : List V → Hp → VK → Prop := fun xs H Q => ∃ (a : Addr) (ps : List Addr) (kvs : List (List L2.Key × V)), xs = [.ref a] ∧ SqL K H a (ps.map V.ref) ∧ Paired (PairT H) ps kvs ∧ ∀ p, H p = none → Q (.ref p) (upd H p (.dT (addK kvs)))
theorem cr_dctT (hcalm : X.calm = true) (hu : X.A.units + 64 < cLine) : CallR X (.type "dict") (rDctT X.K) := by
  intro pins s σ H xs us Q I r q
  obtain ⟨a, ps, kvs, rfl, hq, hp, q⟩ := q
  obtain ⟨u, rfl, rx⟩ := vals1 r
  cases rx
  obtain ⟨its, rv, pl, hz⟩ := I.list hq
  have ei := refs_at rv
  subst ei
  rw [List.length_map] at hz
  obtain ⟨prs, rel, hl, hpr⟩ := pairsT_of I hp
  obtain ⟨o, n, ho, hc, hd, hdat⟩ := pl
  have hlp : prs.length = ps.length := by rw [← hl, List.length_map]
  refine dict_pairsT (prs := prs) (I.ok.hd hcalm) (by omega) ho hc hd hdat (by simp [hlp]) (by rw [hlp]; exact hz) (fun j q' e => ?_) fun h' tk hd' k => ?_
  · obtain ⟨e2, e3⟩ := hpr q' (List.mem_of_getElem? e)
    refine ⟨?_, e2, e3⟩
    have z : ps[j]? = some q'.1 := by rw [← hl, List.getElem?_map, e]; rfl
    simp [z]
  · have hm : (s.heap.objs.size == sysModules) = false := beq_eq_false_iff_ne.mpr (Nat.ne_of_gt I.big)
    have hn : H s.heap.objs.size = none := I.hok.fresh (Nat.le_refl _)
    have l1 := Paired.length rel
    have hlen : (addK kvs).length ≤ sizeLine := by
      have := addK_len kvs []
      unfold addK
      rw [List.length_nil] at this
      omega
    have kt : KT H (addK kvs) (addT [] prs) := addK_run .nil rel
    obtain ⟨o, es, ep, e1, e2, e3, e4, e5, e6⟩ := hd'
    refine ⟨.ref s.heap.objs.size, upd H s.heap.objs.size (.dT (addK kvs)), I.laid (t' := tk) k (Nat.le_refl _) (show ObjOk X.prog X.w _ _ _ (.dT (addK kvs)) from ⟨hlen, hm, addT [] prs, kt.keeps fun b ys e => ?_, o, es, ep, e1, e2, e3, e4, e6⟩), rfl, q _ hn⟩
    rw [upd_ne (ne_of_none e hn)]
    exact e
/-- max(t), t a tuple of whole numbers -/
def rMaxT (K : PySem.W.Frag) : List V → Hp → VK → Prop := fun vs H Q => ∃ (a : Addr) (ns : List Int), vs = [V.ref a] ∧ SqT K H a (ns.map V.int) ∧ 0 < ns.length ∧ ∀ m, m ∈ ns → (∀ y, y ∈ ns → y ≤ m) → Q (.int m) H
theorem cr_maxT (hc : X.calm = true) : CallR X (.builtin "max") (rMaxT X.K) := by
  intro pins s σ H vs us Q I r h
  obtain ⟨a, ns, rfl, hs, hne, q⟩ := h
  obtain ⟨its, rv, hl, _⟩ := I.tuple hs
  rw [Vals.ref1 r]
  exact max_tupI (I.ok.hd hc) (show s.heap.IsTuple a its.toArray from hl) (vals_ints ns its rv) hne fun h' tk m t' hk h1 h2 => ⟨.int _, H, I.kept hk, ⟨_, rfl⟩, q m h1 h2⟩
/-- a tuple, once -/
def rRep1 (K : PySem.W.Frag) : R2 := fun x y H Q => ∃ l xs, x = .ref l ∧ y = .int 1 ∧ SqT K H l xs ∧ Q (.ref l) H
theorem op_rep1 : OpR X (binaryOp .Mult) (rRep1 X.K) := by
  intro pins s σ H x y v u Q I rx ry h
  obtain ⟨l, xs, rfl, rfl, hT, q⟩ := h
  cases rx
  obtain ⟨t, rfl⟩ := ry
  obtain ⟨its, r, ⟨⟨cls, dd, data, sl⟩, ho, hc, n, hd⟩, hs⟩ := I.tuple hT
  simp only at hc hd
  subst hc hd
  refine wpAny_binaryOp_repeat_ref (T := "tuple") (U := "int") (by decide) ⟨_, ho, rfl⟩ (fun s' => typeIs_int s' 1 t) noFill_tuple_mul F.fills_int_mul F.slot_int_rmul repeat_tuple F.slot_int_index.lookup
    (call_meets F.slot_int_rmul (typeIs_int s 1 t) F.entry_int_rmul (F.args_int_rmul_2 _ _) (int_rmul_tuple 1 t l its.toArray n dd sl)
      ⟨ho, rfl, ⟨_, ho, rfl⟩, call_meets F.slot_tuple_mul ⟨_, ho, rfl⟩ F.entry_tuple_mul (F.args_tuple_mul_2 _ _) (tuple_mul1 l its.toArray n dd sl t) ⟨ho, ?_⟩⟩)
  exact ⟨.ref l, H, I, rfl, q⟩
/-- t[::-1] -/
def tRevT (K : PySem.W.Frag) (te : TE) : TE := fun σ H Q => te σ H fun x H1 => ∃ a xs, x = .ref a ∧ ((SqL K H1 a xs ∧ ∀ p, H1 p = none → Q (.ref p) (upd H1 p (.lst xs.reverse))) ∨ (SqT K H1 a xs ∧ ∀ p, H1 p = none → Q (.ref p) (upd H1 p (.tup xs.reverse))))
theorem pe_revT {e : Expr} {te : TE} {k : Nat} {p1 p2 p3 pos : Pos} (he : PE X e te) : PE X (.Subscript e (.Slice none none (some (.UnaryOp .USub (.Constant (.int 1) k p1) p2)) p3) pos) (tRevT X.K te) := by
  refine ⟨fun pins s σ H Q I h => ?_⟩
  refine Subscript_ (thn (he.run pins s σ H _ I h) fun v s1 ⟨x, H1, I1, r1, q1⟩ => ?_)
  obtain ⟨a, xs, rfl, hx⟩ := q1
  cases r1
  have hst : PO X (some (.UnaryOp .USub (.Constant (.int 1) k p1) p2)) (tPart (tUn (rU fun i => .int (-i)) (tC (.int 1)))) := po_some (pe_un un_neg pe_int)
  refine wpAny_Slice (thn (po_none.run pins s1 σ H1 (fun o H2 => o = none ∧ H2 = H1) I1 ⟨rfl, rfl⟩) fun vl s2 ⟨l, H2, I2, pl, el, e2⟩ => ?_)
  subst el e2
  refine thn (po_none.run pins s2 σ H2 (fun o H3 => o = none ∧ H3 = H2) I2 ⟨rfl, rfl⟩) fun vu s3 ⟨u, H3, I3, pu, eu, e3⟩ => ?_
  subst eu e3
  refine thn (hst.run pins s3 σ H3 (fun o H4 => o = some (-1) ∧ H4 = H3) I3 ⟨1, rfl, -1, rfl, rfl, rfl⟩) fun vs s4 ⟨o, H4, I4, ps, eo, e4⟩ => ?_
  subst eo e4
  have I5 : Inv X pins σ H4 { s4 with heap := s4.heap.push { cls := .type "slice", data := .fields #[vl, vu, vs] } } := I4.kept (t' := s4.toks) fun b ob q => Heap.get?_push_of_some _ q
  show wpAny (model X.prog X.w) X.A (subscriptTail e (.Slice none none (some (.UnaryOp .USub (.Constant (.int 1) k p1) p2)) p3) (.ref a) (.ref s4.heap.objs.size)) (EP X pins σ Q) X.xe { s4 with heap := s4.heap.push { cls := .type "slice", data := .fields #[vl, vu, vs] } }
  rcases hx with ⟨hx, q⟩ | ⟨hx, q⟩
  · obtain ⟨its, r, ht, hz⟩ := I5.list hx
    have hlen := r.length
    refine tail_any (ops := [.ref a, .ref s4.heap.objs.size]) ht.isList.typeIs (PySem.slot_list_getitem.lookup) ?_ (by with_unfolding_all rfl)
    refine wpAny_getItem_list_slice ht.isList (Heap.IsSliceOf.new _ vl vu vs) pl pu ps (by decide) ?_ (by rw [List.size_toArray]; omega)
    rw [PySem.W.krv_pick]
    refine ⟨.ref _, _, I5.laid (t' := s4.toks) (o := .lst xs.reverse) (fun b ob q => Heap.get?_push_of_some _ q) (Nat.le_refl _) ?_, rfl, q _ (I5.hok.fresh (Nat.le_refl _))⟩
    exact ⟨by rw [List.length_reverse]; exact hz, _, 0, r.reverse, Heap.get?_push_size _ rfl⟩
  · obtain ⟨its, r, ht, hz⟩ := I5.tuple hx
    have hlen := r.length
    cases pl
    cases pu
    refine tail_any (ops := [.ref a, .ref s4.heap.objs.size]) ht.typeIs (PyProof.Rows.slot_tuple_getitem.lookup) ?_ (by with_unfolding_all rfl)
    refine getItem_tuple_rev ht (Heap.IsSliceOf.new _ .none .none vs) ps ?_ (by rw [List.size_toArray]; omega)
    refine ⟨.ref _, _, I5.laid (t' := s4.toks) (o := .tup xs.reverse) (fun b ob q => Heap.get?_push_of_some _ q) (Nat.le_refl _) ?_, rfl, q _ (I5.hok.fresh (Nat.le_refl _))⟩
    exact ⟨by rw [List.length_reverse]; exact hz, _, r.reverse, IsTup.new _ _⟩
end
end DL

set_option Elab.async false
set_option linter.all false
set_option maxRecDepth 100000
set_option maxHeartbeats 4000000
/-! DM: rows as data; sorted, set, dict of rows; more operations; peeks; own dicts. -/
namespace DL
open PySem PySem.Spec PyProof.Rows L2

/-! ### rows -/
def rowD (ns : List Int) : D := .tup (ns.map D.int)
def itOf : D → Option (List Int)
  | .tup l => intsOf l
  | _ => none
def itsOf : List D → Option (List (List Int))
  | [] => some []
  | d :: r => (itOf d).bind fun n => (itsOf r).map fun m => n :: m
theorem intsOf_map : ∀ ns : List Int, intsOf (ns.map D.int) = some ns
  | [] => rfl
  | n :: ns => by
    rw [List.map_cons]
    unfold intsOf
    rw [intsOf_map ns]
    rfl
theorem intsOf_eq : ∀ {l : List D} {ns : List Int}, intsOf l = some ns → l = ns.map D.int
  | [], ns, e => by
    cases e
    rfl
  | d :: r, ns, e => by
    cases d <;> first
      | (cases e; done)
      | skip
    rename_i i
    unfold intsOf at e
    cases q : intsOf r with
    | none =>
      rw [q] at e
      cases e
    | some m =>
      rw [q] at e
      cases e
      rw [intsOf_eq q]
      rfl
theorem itOf_row (ns : List Int) : itOf (rowD ns) = some ns := intsOf_map ns
theorem itOf_eq {d : D} {ns : List Int} (e : itOf d = some ns) : d = rowD ns := by
  cases d <;> first
    | (cases e; done)
    | skip
  rename_i l
  unfold rowD
  rw [← intsOf_eq e]
theorem itsOf_rows : ∀ nss : List (List Int), itsOf (nss.map rowD) = some nss
  | [] => rfl
  | ns :: nss => by
    rw [List.map_cons]
    unfold itsOf
    rw [itOf_row, itsOf_rows nss]
    rfl
theorem itsOf_eq : ∀ {l : List D} {nss : List (List Int)}, itsOf l = some nss → l = nss.map rowD
  | [], nss, e => by
    cases e
    rfl
  | d :: r, nss, e => by
    unfold itsOf at e
    cases q : itOf d with
    | none =>
      rw [q] at e
      cases e
    | some n =>
      rw [q] at e
      cases q2 : itsOf r with
      | none =>
        rw [q2] at e
        cases e
      | some m =>
        rw [q2] at e
        cases e
        rw [itOf_eq q, itsOf_eq q2]
        rfl
section
variable {K : PySem.W.Frag} {mg : Str → Option Value} {g : Gd} {S H : Hp}
theorem reps_intsV : ∀ {ns : List Int} {vs : List V}, Reps K mg g S (ns.map D.int) vs → vs = ns.map V.int
  | [], vs, r => by
    unfold List.map Reps at r
    exact r
  | n :: ns, vs, r => by
    rw [List.map_cons] at r
    unfold Reps at r
    obtain ⟨w, ws, rfl, r1, r2⟩ := r
    unfold Rep at r1
    rw [r1, reps_intsV r2]
    rfl
theorem ints_repsV : ∀ ns : List Int, Reps K mg g S (ns.map D.int) (ns.map V.int)
  | [] => Reps.nil
  | n :: ns => Reps.cons (by unfold Rep; rfl) (ints_repsV ns)
theorem rep_row {ns : List Int} {v : V} (l : Le S H) (r : Rep K mg g S (rowD ns) v) : RowV H v ns := by
  unfold rowD Rep at r
  obtain ⟨a, vs, rfl, h1, h2⟩ := r
  rw [reps_intsV h2] at h1
  exact ⟨a, rfl, l.tup h1⟩
theorem reps_rows (l : Le S H) : ∀ {nss : List (List Int)} {vs : List V}, Reps K mg g S (nss.map rowD) vs → Paired (RowV H) vs nss
  | [], vs, r => by
    unfold List.map Reps at r
    rw [r]
    exact .nil
  | n :: nss, vs, r => by
    rw [List.map_cons] at r
    unfold Reps at r
    obtain ⟨w, ws, rfl, r1, r2⟩ := r
    exact .cons (rep_row l r1) (reps_rows l r2)
/-- rows that stand are told of -/
theorem rows_adopt : ∀ {S : Hp} {nss : List (List Int)} {vs : List V}, Le S H → Paired (RowV H) vs nss → ∃ S', New S H S' H ∧ Reps K mg g S' (nss.map rowD) vs
  | S, _, _, l, .nil => ⟨S, New.rf l, Reps.nil⟩
  | S, _, _, l, .cons (a := v) (b := ns) h t => by
    obtain ⟨a, rfl, ha⟩ := h
    have n1 := New.adopt l ha
    obtain ⟨S', n2, r2⟩ := rows_adopt n1.le t
    refine ⟨S', n1.tr n2, Reps.cons ?_ r2⟩
    unfold rowD Rep
    exact ⟨a, _, rfl, n2.ss _ _ upd_same, ints_repsV ns⟩
end
theorem sortR_ne {nss : List (List Int)} (h : ∀ ns ∈ nss, ns ≠ []) : ∀ ns ∈ sortR nss, ns ≠ [] := fun ns hn => h ns ((sortR_perm nss).mem_iff.mp hn)
/-- each row once -/
def nubR : List (List Int) → List (List Int)
  | [] => []
  | x :: l => if x ∈ nubR l then nubR l else x :: nubR l
theorem nubR_mem {x : List Int} : ∀ {l : List (List Int)}, x ∈ nubR l ↔ x ∈ l
  | [] => Iff.rfl
  | y :: l => by
    unfold nubR
    by_cases h : y ∈ nubR l
    · rw [if_pos h, nubR_mem]
      refine ⟨fun z => List.mem_cons_of_mem _ z, fun z => ?_⟩
      rcases List.mem_cons.mp z with rfl | z
      · exact nubR_mem.mp h
      · exact z
    · rw [if_neg h, List.mem_cons, List.mem_cons, nubR_mem]
theorem nubR_nodup : ∀ l : List (List Int), (nubR l).Nodup
  | [] => List.nodup_nil
  | y :: l => by
    unfold nubR
    by_cases h : y ∈ nubR l
    · rw [if_pos h]
      exact nubR_nodup l
    · rw [if_neg h]
      exact List.nodup_cons.mpr ⟨h, nubR_nodup l⟩
theorem sortR_of_perm {l m : List (List Int)} (h : l.Perm m) : sortR l = sortR m := srtR_uniq (sortR_srt l) (sortR_srt m) (((sortR_perm l).trans h).trans (sortR_perm m).symm)
theorem sortR_nub {l m : List (List Int)} (hl : l.Nodup) (h : ∀ x, x ∈ l ↔ x ∈ m) : sortR l = sortR (nubR m) :=
  sortR_of_perm ((List.perm_ext_iff_of_nodup hl (nubR_nodup m)).mpr fun x => by rw [h, nubR_mem])

/-! ### sorted -/
def bSrt : List D → W D := fun as P _ => match as with
  | [.lst l] => match itsOf l with
    | some nss => (∀ ns ∈ nss, ns ≠ []) ∧ P (.lst ((sortR nss).map rowD))
    | none => False
  | [.tup l] => match itsOf l with
    | some nss => (∀ ns ∈ nss, ns ≠ []) ∧ P (.lst ((sortR nss).map rowD))
    | none => False
  | [.dic l _] => match itsOf l with
    | some nss => (nss ≠ [] ∧ ∀ ns ∈ nss, ns ≠ []) ∧ P (.lst ((sortR nss).map rowD))
    | none => False
  | _ => False
section
variable {X : Cx} {g : Gd}
theorem srt_out {S H : Hp} {P : D → Prop} {Q : VK} {nss : List (List Int)} (l : Le S H) (h : P (.lst (nss.map rowD))) (k : ∀ d v S' H', P d → New S H S' H' → Rep X.K X.mg g S' d v → Q v H') (ys : List V) (p : Addr) (r : Paired (RowV H) ys nss) (hp : H p = none) : Q (.ref p) (upd H p (.lst ys)) := by
  obtain ⟨S1, n1, r1⟩ := rows_adopt (K := X.K) (mg := X.mg) (g := g) l r
  have n2 := New.add (o := .lst ys) n1.le hp (fun ps z => by cases z)
  exact k _ _ _ _ h (n1.tr n2) (by unfold Rep; exact ⟨p, ys, rfl, upd_same, r1.mono n2.ss⟩)
theorem keys_rows : ∀ {keys : List (List L2.Key)} {nss : List (List Int)}, keys.map tD = nss.map rowD → keys = nss.map fun ns => ns.map Sum.inl
  | [], [], _ => rfl
  | [], _ :: _, e => by cases e
  | _ :: _, [], e => by cases e
  | k :: keys, n :: nss, e => by
    obtain ⟨e1, e2⟩ := List.cons.inj e
    rw [List.map_cons, keys_rows e2]
    congr 1
    unfold tD rowD at e1
    have e3 := D.tup.inj e1
    clear e e1 e2
    induction k generalizing n with
    | nil =>
      cases n with
      | nil => rfl
      | cons _ _ => cases e3
    | cons a k ih =>
      cases n with
      | nil => cases e3
      | cons b n =>
        obtain ⟨z1, z2⟩ := List.cons.inj e3
        rw [List.map_cons, ih n z2]
        cases a with
        | inl i =>
          cases z1
          rfl
        | inr x => cases z1
theorem bsrt_ok : OpA X g bSrt (rSrt X.K) := fun as xs B S H P Z Q f r h k => by
  unfold bSrt at h
  split at h
  · rename_i l
    split at h
    · rename_i nss e
      obtain ⟨v, rfl, rv⟩ := rep1 r
      unfold Rep at rv
      obtain ⟨a, vs, rfl, h1, h2⟩ := rv
      rw [itsOf_eq e] at h2
      exact ⟨a, nss, rfl, .inl ⟨vs, .inl (f.le.sqL (SqL.of h1)), reps_rows f.le h2⟩, h.1, srt_out f.le h.2 k⟩
    · exact h.elim
  · rename_i l
    split at h
    · rename_i nss e
      obtain ⟨v, rfl, rv⟩ := rep1 r
      unfold Rep at rv
      obtain ⟨a, vs, rfl, h1, h2⟩ := rv
      rw [itsOf_eq e] at h2
      exact ⟨a, nss, rfl, .inl ⟨vs, .inr (f.le.sqT h1), reps_rows f.le h2⟩, h.1, srt_out f.le h.2 k⟩
    · exact h.elim
  · rename_i l ws
    split at h
    · rename_i nss e
      obtain ⟨v, rfl, rv⟩ := rep1 r
      unfold Rep at rv
      obtain ⟨a, us, o, b, rfl, h1, h2, h3⟩ := rv
      have el := itsOf_eq e
      rcases h2 with ⟨_, keys, z1, z2, z3, z4⟩ | ⟨_, keys, z1, z2, z3, z4⟩
      · exfalso
        rw [el] at z1
        cases nss with
        | nil => exact h.1.1 rfl
        | cons n nss =>
          cases keys with
          | nil => cases z1
          | cons kk keys =>
            have q := (List.cons.inj z1).1
            cases kk <;> cases q
      · rw [el] at z1
        have ek := keys_rows z1.symm
        refine ⟨a, nss, rfl, .inr ⟨keys.zip us, ?_, ?_⟩, h.1.2, srt_out f.le h.2 k⟩
        · rw [z4] at h1
          rcases f.le _ _ h1 with q | ⟨_, ob, q⟩
          · exact .inl q
          · exact .inr ⟨ob, q⟩
        · rw [List.map_fst_zip (by rw [z2]; exact Nat.le_refl _), ek]
    · exact h.elim
  · exact h.elim
end
end DL

set_option Elab.async false
set_option linter.all false
set_option maxRecDepth 100000
set_option maxHeartbeats 4000000
/-! EA: sorted(set(..)), sorted(dict(..)), isinstance of two types, max of a tuple, times, turned about. -/
namespace DL
open PySem PySem.Spec PyProof.Rows L2
theorem boot20 : bootBuiltins "sorted" = some (.builtin "sorted") := by decide +kernel
theorem boot21 : bootBuiltins "set" = some (.type "set") := by decide +kernel
section
variable {T : List (Addr × Str)} {n : Nat} {X : Cx} {g : Gd} {B : Hp × Hp} {E : XK} {a b : Expr} {es : List Expr} {ma mb : EM} {ml : Ev → W (List D)} {p p2 pos pos2 : Pos}
theorem db_sorted (c : CxK T n X g E) (hm : X.mg "sorted" = none) (hg : Gl X "sorted") (ha : DAr X g B E (a :: es) ml) (hst : noStar (a :: es) = true := by rfl) : DE X g B E (.Call (.Name "sorted" p) (a :: es) [] pos) (eA bSrt ml) :=
  de_b (cr_srt c.calm) bsrt_ok hg hm boot20 ha (hst := hst)
/-- sorted(set(e)) -/
def sstR (l : List D) (P : D → Prop) : Prop := match itsOf l with
  | some nss => (nss.length < 64 ∧ ∀ ns ∈ nss, ns ≠ []) ∧ P (.lst ((sortR (nubR nss)).map rowD))
  | none => False
def eSst (a : EM) : EM := fun env P Z => a env (fun d => match d with
  | .lst l => sstR l P
  | .tup l => sstR l P
  | _ => False) Z
theorem rows_addrs {H : Hp} : ∀ {vs : List V} {nss : List (List Int)}, Paired (RowV H) vs nss → ∃ ks : List (Addr × List Int), vs = ks.map (fun p => V.ref p.1) ∧ ks.map (·.2) = nss ∧ ∀ p ∈ ks, H p.1 = some (.tup (p.2.map V.int))
  | _, _, .nil => ⟨[], rfl, rfl, fun p hp => by cases hp⟩
  | _, _, .cons (a := v) (b := ns) h t => by
    obtain ⟨q, rfl, hq⟩ := h
    obtain ⟨ks, e1, e2, e3⟩ := rows_addrs t
    refine ⟨(q, ns) :: ks, by rw [List.map_cons, e1], by rw [List.map_cons, e2], fun p hp => ?_⟩
    rcases List.mem_cons.mp hp with rfl | hp
    · exact hq
    · exact e3 p hp
theorem paired_keep {H H' : Hp} (k : ∀ a vs, H a = some (.tup vs) → H' a = some (.tup vs)) : ∀ {vs : List V} {nss : List (List Int)}, Paired (RowV H) vs nss → Paired (RowV H') vs nss
  | _, _, .nil => .nil
  | _, _, .cons h t => by
    obtain ⟨q, e, hq⟩ := h
    exact .cons ⟨q, e, k _ _ hq⟩ (paired_keep k t)
theorem de_sset (c : CxK T n X g E) (hm : X.mg "sorted" = none) (hg : Gl X "sorted") (hm2 : X.mg "set" = none) (hg2 : Gl X "set") (ha : DE X g B E a ma) (hs : isStar a = false := by rfl) : DE X g B E (.Call (.Name "sorted" p) [.Call (.Name "set" p2) [a] [] pos2] [] pos) (eSst ma) := by
  have hst : noStar [a] = true := by
    unfold noStar noStar
    rw [hs]
    rfl
  refine pe_imp (pe_callB (cr_srtS c.calm) hg hm boot20 (pa_cons (pe_callTy (callr_or (cr_setL2 c.calm c.u64) (cr_setT2 c.calm c.u64)) hg2 hm2 boot21 (pa_cons ha pa_nil (st_one hs)) (by decide) (by decide) (st_one hs) (st_any hst)) pa_nil rfl) (by decide) (by decide) rfl rfl) fun σ H Q h => ?_
  obtain ⟨env, S, P, Z, ok, hm, k, kx⟩ := h
  refine ⟨env, S, _, Z, ok, hm, fun d v S' H' q ok' ex r => ?_, kx⟩
  have main : ∀ (l : List D) (q' : Addr) (vs : List V), v = .ref q' → sstR l P → Reps X.K X.mg g S' l vs → ∃ ks : List (Addr × List Int), vs = ks.map (fun p => V.ref p.1) ∧ (∀ p ∈ ks, SqT X.K H' p.1 (p.2.map V.int)) ∧ ks.length < 64 ∧
      ∀ (x : Addr) (L : List (Addr × List Int)), H' x = none → (∀ p ∈ L, p ∈ ks) → (∀ p ∈ ks, p.2 ∈ L.map (·.2)) → (L.map (·.2)).Nodup → rSrtS X.prog X.w [V.ref x] (upd H' x (SetTO X.prog X.w x L)) Q := by
    intro l q' vs ev q rv
    unfold sstR at q
    split at q
    · rename_i nss e
      rw [itsOf_eq e] at rv
      obtain ⟨ks, e1, e2, e3⟩ := rows_addrs (reps_rows ok'.frm.le rv)
      refine ⟨ks, e1, fun p hp => .inl (.inl (e3 p hp)), by rw [← e2, List.length_map] at q; exact q.1.1, fun x L hx h1 h2 h3 => ?_⟩
      have sameT : ∀ {y : Addr} {vs : List V}, H' y = some (.tup vs) → upd H' x (SetTO X.prog X.w x L) y = some (.tup vs) := fun {y vs} hy => by
        rw [upd_ne (ne_of_none hy hx)]
        exact hy
      refine ⟨x, L, rfl, upd_same, fun p hp => ⟨sameT (e3 p (h1 p hp)), q.1.2 _ (by rw [← e2]; exact List.mem_map.mpr ⟨p, h1 p hp, rfl⟩)⟩, fun ys w r hw => ?_⟩
      have n0 : New S' H' S' (upd H' x (SetTO X.prog X.w x L)) := New.hid ok'.frm.le hx
      have es : sortR (L.map (·.2)) = sortR (nubR nss) := sortR_nub h3 fun y => by
        rw [← e2]
        refine ⟨fun hy => ?_, fun hy => ?_⟩
        · obtain ⟨p, hp, rfl⟩ := List.mem_map.mp hy
          exact List.mem_map.mpr ⟨p, h1 p hp, rfl⟩
        · obtain ⟨p, hp, rfl⟩ := List.mem_map.mp hy
          exact h2 p hp
      rw [es] at r
      refine srt_out (g := g) n0.le q.2 (fun d v S2 H2 pd nn rr => k d v S2 H2 pd (ok'.new (n0.tr nn)) (ex.tr nn.ss) rr) ys w r hw
    · exact q.elim
  cases d with
  | lst l =>
    unfold Rep at r
    obtain ⟨q', vs, rfl, h2, h3⟩ := r
    obtain ⟨ks, e1, e2, e3, e4⟩ := main l q' vs rfl q h3
    refine .inl ⟨q', ks, rfl, by rw [← e1]; exact ok'.frm.le.sqL (SqL.of h2), e2, e3, e4⟩
  | tup l =>
    unfold Rep at r
    obtain ⟨q', vs, rfl, h2, h3⟩ := r
    obtain ⟨ks, e1, e2, e3, e4⟩ := main l q' vs rfl q h3
    refine .inr ⟨q', ks, rfl, by rw [← e1]; exact ok'.frm.le.sqT h2, e2, e3, e4⟩
  | _ => exact q.elim
end
end DL

set_option Elab.async false
set_option linter.all false
set_option maxRecDepth 100000
set_option maxHeartbeats 4000000
/-! EB: sorted(dict(..)), isinstance of two types, max of a tuple, times, turned about, mixed calls. -/
namespace DL
open PySem PySem.Spec PyProof.Rows L2
/-! ### pairs of a row and something -/
def prsOf : List D → Option (List (List Int × D))
  | [] => some []
  | .tup [k, v] :: r => (itOf k).bind fun n => (prsOf r).map fun m => (n, v) :: m
  | _ => none
def prD (q : List Int × D) : D := .tup [rowD q.1, q.2]
theorem prsOf_eq : ∀ {l : List D} {m : List (List Int × D)}, prsOf l = some m → l = m.map prD
  | [], m, e => by
    cases e
    rfl
  | d :: r, m, e => by
    unfold prsOf at e
    split at e
    · rename_i e0
      cases e0
    · rename_i k v r' e0
      cases e0
      cases q : itOf k with
      | none =>
        rw [q] at e
        cases e
      | some n =>
        rw [q] at e
        cases q2 : prsOf r with
        | none =>
          rw [q2] at e
          cases e
        | some m' =>
          rw [q2] at e
          cases e
          rw [List.map_cons, ← prsOf_eq q2]
          unfold prD
          rw [itOf_eq q]
    · cases e
theorem prsOf_map : ∀ m : List (List Int × D), prsOf (m.map prD) = some m
  | [] => rfl
  | (n, v) :: m => by
    rw [List.map_cons]
    show (itOf (rowD n)).bind _ = _
    rw [itOf_row]
    show (prsOf (m.map prD)).map _ = _
    rw [prsOf_map m]
    rfl
def eSdp (a : EM) : EM := fun env P Z => a env (fun d => match d with
  | .lst l => match prsOf l with
    | some m => (m ≠ [] ∧ ∀ q ∈ m, q.1 ≠ []) ∧ P (.lst ((sortR (nubR (m.map (·.1)))).map rowD))
    | none => False
  | _ => False) Z
section
variable {K : PySem.W.Frag} {mg : Str → Option Value} {g : Gd} {S H : Hp}
theorem prs_rep (l : Le S H) : ∀ {m : List (List Int × D)} {vs : List V}, Reps K mg g S (m.map prD) vs → ∃ (ps : List Addr) (kvs : List (List L2.Key × V)), vs = ps.map V.ref ∧ Paired (PairT H) ps kvs ∧ kvs.map (·.1) = (m.map (·.1)).map fun ns => ns.map Sum.inl
  | [], vs, r => by
    unfold List.map Reps at r
    exact ⟨[], [], r, .nil, rfl⟩
  | q :: m, vs, r => by
    rw [List.map_cons] at r
    unfold Reps at r
    obtain ⟨w, ws, rfl, r1, r2⟩ := r
    obtain ⟨ps, kvs, e1, e2, e3⟩ := prs_rep l r2
    unfold prD Rep at r1
    obtain ⟨a, us, rfl, h1, h2⟩ := r1
    unfold Reps at h2
    obtain ⟨x, xs, rfl, h3, h4⟩ := h2
    unfold Reps at h4
    obtain ⟨y, ys, rfl, h5, h6⟩ := h4
    unfold Reps at h6
    subst h6
    obtain ⟨b, rfl, hb⟩ := rep_row l h3
    refine ⟨a :: ps, (q.1.map Sum.inl, y) :: kvs, by rw [List.map_cons, e1], .cons ⟨b, l.tup h1, ?_⟩ e2, by rw [List.map_cons, List.map_cons, List.map_cons, e3]⟩
    rw [hb]
    exact congrArg (fun l => some (HO.tup l)) (kv_inl q.1).symm
end
theorem putK_keys {α : Type} [DecidableEq α] (acc : List (α × V)) (k : α) (v : V) : (putK acc k v).map (·.1) = if k ∈ acc.map (·.1) then acc.map (·.1) else acc.map (·.1) ++ [k] := by
  unfold putK
  have e : (acc.any fun kv => decide (kv.1 = k)) = decide (k ∈ acc.map (·.1)) := by
    rw [Bool.eq_iff_iff, List.any_eq_true, decide_eq_true_iff, List.mem_map]
    exact ⟨fun ⟨x, h1, h2⟩ => ⟨x, h1, of_decide_eq_true h2⟩, fun ⟨x, h1, h2⟩ => ⟨x, h1, decide_eq_true h2⟩⟩
  rw [e]
  by_cases h : k ∈ acc.map (·.1)
  · rw [decide_eq_true h, if_pos rfl, if_pos h, List.map_map]
    exact List.map_congr_left fun x _ => by
      show (if x.1 = k then (x.1, v) else x).1 = x.1
      split <;> rfl
  · rw [decide_eq_false h, if_neg (by decide), if_neg h, List.map_append]
    rfl
theorem addK_keys {nss0 : List (List Int)} : ∀ {kvs acc : List (List L2.Key × V)} {nss : List (List Int)}, kvs.map (·.1) = nss.map (fun ns => ns.map Sum.inl) → acc.map (·.1) = nss0.map (fun ns => ns.map Sum.inl) → nss0.Nodup →
    ∃ out : List (List Int), (kvs.foldl (fun a q => putK a q.1 q.2) acc).map (·.1) = out.map (fun ns => ns.map Sum.inl) ∧ out.Nodup ∧ ∀ x, x ∈ out ↔ x ∈ nss0 ∨ x ∈ nss
  | [], acc, [], _, h, n => ⟨nss0, h, n, fun x => by simp⟩
  | [], acc, _ :: _, e, h, n => by cases e
  | _ :: _, acc, [], e, h, n => by cases e
  | q :: kvs, acc, ns :: nss, e, h, n => by
    obtain ⟨e1, e2⟩ := List.cons.inj e
    have inj : ∀ {a b : List Int}, a.map (Sum.inl (β := Str)) = b.map Sum.inl → a = b := fun {a b} z => by
      have z1 : (a.map (Sum.inl (β := Str))).map kV = (b.map Sum.inl).map kV := by rw [z]
      rw [kv_inl, kv_inl] at z1
      have z2 : (a.map V.int).map intV = (b.map V.int).map intV := by rw [z1]
      rwa [intV_map, intV_map] at z2
    have hmem : q.1 ∈ acc.map (·.1) ↔ ns ∈ nss0 := by
      rw [show q.1 = ns.map Sum.inl from e1, h, List.mem_map]
      exact ⟨fun ⟨y, hy, z⟩ => by rw [← inj z]; exact hy, fun z => ⟨ns, z, rfl⟩⟩
    by_cases hq : ns ∈ nss0
    · obtain ⟨out, h1, h2, h3⟩ := addK_keys (acc := putK acc q.1 q.2) e2 (by rw [putK_keys, if_pos (hmem.mpr hq)]; exact h) n
      refine ⟨out, h1, h2, fun x => ?_⟩
      rw [h3, List.mem_cons]
      exact ⟨fun z => z.elim .inl fun z => .inr (.inr z), fun z => z.elim .inl fun z => z.elim (fun z => .inl (by rw [z]; exact hq)) .inr⟩
    · obtain ⟨out, h1, h2, h3⟩ := addK_keys (nss0 := nss0 ++ [ns]) (acc := putK acc q.1 q.2) e2 (by rw [putK_keys, if_neg (fun z => hq (hmem.mp z)), h, List.map_append, show q.1 = ns.map Sum.inl from e1]; rfl) (by
        rw [List.nodup_append]
        refine ⟨n, by simp, fun a ha b hb z => ?_⟩
        rw [List.mem_singleton.mp hb] at z
        exact hq (by rw [← z]; exact ha))
      refine ⟨out, h1, h2, fun x => ?_⟩
      rw [h3, List.mem_append, List.mem_singleton, List.mem_cons]
      exact ⟨fun z => z.elim (fun z => z.elim .inl fun z => .inr (.inl z)) fun z => .inr (.inr z), fun z => z.elim (fun z => .inl (.inl z)) fun z => z.elim (fun z => .inl (.inr z)) .inr⟩
section
variable {T : List (Addr × Str)} {n : Nat} {X : Cx} {g : Gd} {B : Hp × Hp} {E : XK} {a b : Expr} {es : List Expr} {ma mb : EM} {ml : Ev → W (List D)} {p p2 pos pos2 : Pos}
theorem de_sdict (c : CxK T n X g E) (hm : X.mg "sorted" = none) (hg : Gl X "sorted") (hm2 : X.mg "dict" = none) (hg2 : Gl X "dict") (ha : DE X g B E a ma) (hs : isStar a = false := by rfl) : DE X g B E (.Call (.Name "sorted" p) [.Call (.Name "dict" p2) [a] [] pos2] [] pos) (eSdp ma) := by
  have hst : noStar [a] = true := by
    unfold noStar noStar
    rw [hs]
    rfl
  refine pe_imp (pe_callB (cr_srt c.calm) hg hm boot20 (pa_cons (pe_callTy (cr_dctT c.calm c.u64) hg2 hm2 boot6 (pa_cons ha pa_nil (st_one hs)) (by decide) (by decide) (st_one hs) (st_any hst)) pa_nil rfl) (by decide) (by decide) rfl rfl) fun σ H Q h => ?_
  obtain ⟨env, S, P, Z, ok, hm, k, kx⟩ := h
  refine ⟨env, S, _, Z, ok, hm, fun d v S' H' q ok' ex r => ?_, kx⟩
  cases d with
  | lst l =>
    dsimp only at q
    split at q
    · rename_i m e
      unfold Rep at r
      obtain ⟨q', vs, rfl, h2, h3⟩ := r
      rw [prsOf_eq e] at h3
      obtain ⟨ps, kvs, e1, e2, e3⟩ := prs_rep ok'.frm.le h3
      subst e1
      refine ⟨q', ps, kvs, rfl, ok'.frm.le.sqL (SqL.of h2), e2, fun x hx => ?_⟩
      obtain ⟨out, o1, o2, o3⟩ := addK_keys (nss0 := []) (acc := []) e3 rfl List.nodup_nil
      have n0 : New S' H' S' (upd H' x (.dT (addK kvs))) := New.hid ok'.frm.le hx
      have es : sortR out = sortR (nubR (m.map (·.1))) := sortR_nub o2 fun y => by
        rw [o3]
        simp
      refine ⟨x, out, rfl, .inr ⟨addK kvs, .inl upd_same, o1⟩, fun ns hn => ?_, fun ys w rr hw => ?_⟩
      · rcases (o3 ns).mp hn with z | z
        · cases z
        · obtain ⟨y, hy, rfl⟩ := List.mem_map.mp z
          exact q.1.2 y hy
      · rw [es] at rr
        exact srt_out (g := g) n0.le q.2 (fun d v S2 H2 pd nn rr => k d v S2 H2 pd (ok'.new (n0.tr nn)) (ex.tr nn.ss) rr) ys w rr hw
    · exact q.elim
  | _ => exact q.elim
/-! ### isinstance(x, (A, B)) -/
def bIsT : List D → W D := fun as P _ => match as with
  | [d, .tup [.ty a, .ty b]] => match tyN d with
    | some t => match kitB t a, kitB t b with
      | some x, some y => P (.bl (x || y))
      | _, _ => False
    | none => False
  | _ => False
theorem bist_ok : OpA X g bIsT (rIsiT X.K) := fun as xs B S H P Z Q f r h k => by
  unfold bIsT at h
  split at h
  · rename_i d a b
    split at h
    · rename_i t et
      split at h
      · rename_i x y e1 e2
        obtain ⟨v, w, rfl, rx, rc⟩ := rep2 r
        unfold Rep at rc
        obtain ⟨q, us, rfl, h1, h2⟩ := rc
        unfold Reps at h2
        obtain ⟨u1, us1, rfl, r1, h2⟩ := h2
        unfold Reps at h2
        obtain ⟨u2, us2, rfl, r2, h2⟩ := h2
        unfold Reps at h2
        subst h2
        unfold Rep at r1 r2
        subst r1 r2
        refine ⟨v, q, [.ty a, .ty b], .type t, [.type a, .type b], x || y, rfl, f.le.tup h1, .cons (.ty a) (.cons (.ty b) .nil), tyx_of f.le rx et, ?_, k _ _ S H h (New.rf f.le) (rb _ S)⟩
        refine kitAny_cons (kit_ty e1) (fun z => ?_) (fun z => by rw [z]; rfl)
        subst z
        refine kitAny_cons (kit_ty e2) (fun z => ?_) (fun z => by rw [z]; rfl)
        subst z
        rfl
      · exact h.elim
    · exact h.elim
  · exact h.elim
theorem db_isT (hm : X.mg "isinstance" = none) (hg : Gl X "isinstance") (ha : DAr X g B E (a :: es) ml) (hst : noStar (a :: es) = true := by rfl) : DE X g B E (.Call (.Name "isinstance" p) (a :: es) [] pos) (eA bIsT ml) :=
  de_b call_isiT bist_ok hg hm boot15 ha (hst := hst)
/-! ### max of a tuple of whole numbers -/
def maxL : List Int → Int
  | [] => 0
  | [x] => x
  | x :: y :: l => max x (maxL (y :: l))
theorem maxL_mem : ∀ {l : List Int}, l ≠ [] → maxL l ∈ l ∧ ∀ x ∈ l, x ≤ maxL l
  | [], h => absurd rfl h
  | [x], _ => ⟨List.mem_singleton.mpr rfl, fun y hy => by rw [List.mem_singleton.mp hy]; exact Int.le_refl _⟩
  | x :: y :: l, _ => by
    obtain ⟨h1, h2⟩ := maxL_mem (l := y :: l) (by simp)
    unfold maxL
    refine ⟨?_, fun z hz => ?_⟩
    · by_cases q : x ≤ maxL (y :: l)
      · rw [Int.max_eq_right q]
        exact List.mem_cons_of_mem _ h1
      · rw [Int.max_eq_left (by omega)]
        exact List.mem_cons_self
    · rcases List.mem_cons.mp hz with rfl | hz
      · exact Int.le_max_left _ _
      · exact Int.le_trans (h2 z hz) (Int.le_max_right _ _)
def bMaxT : List D → W D := fun as P _ => match as with
  | [.tup l] => match intsOf l with
    | some ns => ns ≠ [] ∧ P (.int (maxL ns))
    | none => False
  | _ => False
theorem bmaxt_ok : OpA X g bMaxT (rMaxT X.K) := fun as xs B S H P Z Q f r h k => by
  unfold bMaxT at h
  split at h
  · rename_i l
    split at h
    · rename_i ns e
      obtain ⟨v, rfl, rv⟩ := rep1 r
      unfold Rep at rv
      obtain ⟨a, vs, rfl, h1, h2⟩ := rv
      rw [intsOf_eq e] at h2
      rw [reps_intsV h2] at h1
      refine ⟨a, ns, rfl, f.le.sqT h1, List.length_pos_iff.mpr h.1, fun m hm hq => ?_⟩
      obtain ⟨z1, z2⟩ := maxL_mem h.1
      have em : m = maxL ns := Int.le_antisymm (z2 m hm) (hq _ z1)
      rw [em]
      exact k _ _ S H h.2 (New.rf f.le) (ri _ S)
    · exact h.elim
  · exact h.elim
theorem db_maxT (c : CxK T n X g E) (hm : X.mg "max" = none) (hg : Gl X "max") (ha : DAr X g B E (a :: es) ml) (hst : noStar (a :: es) = true := by rfl) : DE X g B E (.Call (.Name "max" p) (a :: es) [] pos) (eA bMaxT ml) :=
  de_b (cr_maxT c.calm) bmaxt_ok hg hm boot12 ha (hst := hst)
/-! ### times, tuples too -/
def dTm (a b : D) : W D := fun P Z => match a, b with
  | .tup l, .int j => (l ≠ [] ∧ l.length ≤ 1000 ∧ 1 ≤ j ∧ j ≤ 1000) ∧ P (.tup (List.replicate j.toNat l).flatten)
  | a, b => dTim a b P Z
theorem dtm_ok : Op2 X g dTm (fun x y H Q => rTim x y H Q ∨ (rRepT X.K x y H Q ∨ rRep1 X.K x y H Q)) := fun a b x y B S H P Z Q f rx ry h k => by
  unfold dTm at h
  split at h
  · rename_i l j
    unfold Rep at rx ry
    subst ry
    obtain ⟨q, vs, rfl, h1, h2⟩ := rx
    have hl := h2.len
    have hn : vs ≠ [] := fun z => h.1.1 (List.length_eq_zero_iff.mp (by rw [hl, z]; rfl))
    by_cases hj : j = 1
    · subst hj
      refine .inr (.inr ⟨q, vs, rfl, rfl, f.le.sqT h1, k _ _ S H h.2 (New.rf f.le) ?_⟩)
      have e : (List.replicate (Int.toNat 1) l).flatten = l := by
        show (List.replicate 1 l).flatten = l
        simp
      rw [e]
      unfold Rep
      exact ⟨q, vs, rfl, h1, h2⟩
    · refine .inr (.inl ⟨q, j, vs, rfl, rfl, f.le.sqT h1, hn, by omega, h.1.2.2.2, by rw [← hl]; exact h.1.2.1, fun t ht => ?_⟩)
      have nn := New.add (o := .tup (List.replicate j.toNat vs).flatten) f.le ht (fun ps z => by cases z)
      exact k _ _ _ _ h.2 nn (by unfold Rep; exact ⟨t, _, rfl, upd_same, (reps_rep h2 j.toNat).mono nn.ss⟩)
  · exact .inl (dtim_ok a b x y B S H P Z Q f rx ry h k)
theorem de_tm (ha : DE X g B E a ma) (hb : DE X g B E b mb) : DE X g B E (.BinOp a .Mult b pos) (e2 dTm ma mb) := de_op (opr_or op_tim (opr_or op_repT op_rep1)) dtm_ok ha hb
/-! ### turned about -/
def eRv (a : EM) : EM := fun env P Z => a env (fun d => match d with
  | .lst l => P (.lst l.reverse)
  | .tup l => P (.tup l.reverse)
  | _ => False) Z
theorem reps_rev {K : PySem.W.Frag} {mg : Str → Option Value} {S : Hp} : ∀ {l : List D} {vs : List V}, Reps K mg g S l vs → Reps K mg g S l.reverse vs.reverse
  | [], vs, r => by
    unfold Reps at r
    rw [r]
    exact Reps.nil
  | d :: l, vs, r => by
    unfold Reps at r
    obtain ⟨w, ws, rfl, r1, r2⟩ := r
    rw [List.reverse_cons, List.reverse_cons]
    exact (reps_rev r2).app (Reps.cons r1 Reps.nil)
theorem de_rv {kk : Nat} {p1 p2 p3 : Pos} (ha : DE X g B E a ma) : DE X g B E (.Subscript a (.Slice none none (some (.UnaryOp .USub (.Constant (.int 1) kk p1) p2)) p3) pos) (eRv ma) := by
  refine pe_imp (pe_revT ha) fun σ H Q h => ?_
  obtain ⟨env, S, P, Z, ok, hm, k, kx⟩ := h
  refine ⟨env, S, _, Z, ok, hm, fun d v S1 H1 q ok1 ex r => ?_, kx⟩
  cases d with
  | lst l =>
    unfold Rep at r
    obtain ⟨a, vs, rfl, h2, h3⟩ := r
    refine ⟨a, vs, rfl, .inl ⟨ok1.frm.le.sqL (SqL.of h2), fun t ht => ?_⟩⟩
    have nn := New.add (o := .lst vs.reverse) ok1.frm.le ht (fun ps z => by cases z)
    exact k _ _ _ _ q (ok1.new nn) (ex.tr nn.ss) (by unfold Rep; exact ⟨t, _, rfl, upd_same, (reps_rev h3).mono nn.ss⟩)
  | tup l =>
    unfold Rep at r
    obtain ⟨a, vs, rfl, h2, h3⟩ := r
    refine ⟨a, vs, rfl, .inr ⟨ok1.frm.le.sqT h2, fun t ht => ?_⟩⟩
    have nn := New.add (o := .tup vs.reverse) ok1.frm.le ht (fun ps z => by cases z)
    exact k _ _ _ _ q (ok1.new nn) (ex.tr nn.ss) (by unfold Rep; exact ⟨t, _, rfl, upd_same, (reps_rev h3).mono nn.ss⟩)
  | _ => exact q.elim
end
end DL

set_option Elab.async false
set_option linter.all false
set_option maxRecDepth 100000
set_option maxHeartbeats 4000000
/-! EC: peeks at what a slot alone holds; own dicts; comprehensions over a dict; own lists with things; mixed calls. -/
namespace DL
open PySem PySem.Spec PyProof.Rows L2
/-! ### no list (b: no dict) within -/
mutual
def nD (b : Bool) : D → Bool
  | .non => true
  | .bl _ => true
  | .int _ => true
  | .str _ => true
  | .fn _ => true
  | .ty _ => true
  | .tup l => nDs b l
  | .lst l => b && nDs b l
  | _ => false
def nDs (b : Bool) : List D → Bool
  | [] => true
  | d :: r => nD b d && nDs b r
end
/-- all but what stands at p -/
def off (S : Hp) (p : Addr) : Hp := fun a => if a = p then none else S a
theorem off_ne {S : Hp} {p a : Addr} (h : a ≠ p) : off S p a = S a := if_neg h
theorem off_at {S : Hp} {p a : Addr} {o : HO} (h : off S p a = some o) : a ≠ p ∧ S a = some o := by
  unfold off at h
  by_cases q : a = p
  · rw [if_pos q] at h
    cases h
  · rw [if_neg q] at h
    exact ⟨q, h⟩
section
variable {K : PySem.W.Frag} {mg : Str → Option Value} {g : Gd} {S : Hp} {p : Addr} {u : HO} {b : Bool}
mutual
theorem Rep.off (hp : S p = some u) (hm : Mut u) (hb : b = true → ∀ vs, u ≠ .lst vs) : ∀ (d : D) (v : V), nD b d = true → Rep K mg g S d v → Rep K mg g (DL.off S p) d v
  | .non, v, _, h => h
  | .bl _, v, _, h => h
  | .int _, v, _, h => h
  | .str _, v, _, h => h
  | .fn _, v, _, h => h
  | .ty _, v, _, h => h
  | .tup l, v, n, h => by
    unfold Rep at h ⊢
    obtain ⟨a, vs, h1, h2, h3⟩ := h
    have q : a ≠ p := fun z => by
      rw [z, hp] at h2
      exact hm.nt.1 vs (Option.some.inj h2)
    exact ⟨a, vs, h1, by rw [off_ne q]; exact h2, Reps.off hp hm hb l vs n h3⟩
  | .lst l, v, n, h => by
    unfold nD at n
    obtain ⟨n1, n2⟩ := Bool.and_eq_true_iff.mp n
    unfold Rep at h ⊢
    obtain ⟨a, vs, h1, h2, h3⟩ := h
    have q : a ≠ p := fun z => by
      rw [z, hp] at h2
      exact hb n1 vs (Option.some.inj h2)
    exact ⟨a, vs, h1, by rw [off_ne q]; exact h2, Reps.off hp hm hb l vs n2 h3⟩
  | .exc _ _ _, _, n, _ => by cases n
  | .ins _ _ _, _, n, _ => by cases n
  | .dic _ _, _, n, _ => by cases n
  | .drw, _, n, _ => by cases n
  | .scr _, _, n, _ => by cases n
  | .opq _, _, n, _ => by cases n
theorem Reps.off (hp : S p = some u) (hm : Mut u) (hb : b = true → ∀ vs, u ≠ .lst vs) : ∀ (l : List D) (vs : List V), nDs b l = true → Reps K mg g S l vs → Reps K mg g (DL.off S p) l vs
  | [], vs, _, h => h
  | d :: l, vs, n, h => by
    unfold nDs at n
    obtain ⟨n1, n2⟩ := Bool.and_eq_true_iff.mp n
    unfold Reps at h ⊢
    obtain ⟨w, ws, h1, h2, h3⟩ := h
    exact ⟨w, ws, h1, Rep.off hp hm hb d w n1 h2, Reps.off hp hm hb l ws n2 h3⟩
end
theorem Frm.off {H S' H' : Hp} (k : Ex g.ks S) (hp : S p = none) (hH : H p = some u) (hm : Mut u) (f : Frm g (upd S p u) H S' H') : Frm g S H (DL.off S' p) H' ∧ S' p = some u := by
  refine ⟨⟨fun a o h => ?_, fun a o h => ?_, f.fr, f.al, fun a o h => ?_, f.dw, fun a h => ?_, f.tb, fun a ps h => ?_, fun a o h => ?_⟩, f.ss _ _ upd_same⟩
  · have q : a ≠ p := fun z => by
      rw [z, hp] at h
      cases h
    rw [off_ne q]
    exact f.ss a o (by rw [upd_ne q]; exact h)
  · exact f.le a o (off_at h).2
  · obtain ⟨q, h⟩ := off_at h
    rcases f.nw a o h with z | z | z
    · rw [upd_ne q] at z
      exact .inl z
    · exact .inr (.inl z)
    · exact .inr (.inr z)
  · cases q : DL.off S' p a with
    | none => rfl
    | some o =>
      have z := f.rs a h
      rw [(off_at q).2] at z
      cases z
  · exact f.nt a ps (off_at h).2
  · have h2 := k a o h
    have q : a ≠ p := fun z => by
      rw [z, hp] at h2
      cases h2
    rw [off_ne q]
    exact f.ss a o (by rw [upd_ne q]; exact h2)
end
/-- while e runs, what slot i alone holds is plain data; then it alone holds it again -/
def ePk (i : Nat) (m : EM) : EM := fun env P Z => match env[i]? with
  | some (.own l) => m ((env.set i (.sh (.lst l))).map noOwn) (fun d => nD false d = true ∧ P d) (fun _ => False)
  | some (.odc _ ks ws) => m ((env.set i (.sh (.dic ks ws))).map noOwn) (fun d => nD true d = true ∧ P d) (fun _ => False)
  | _ => m env P (fun _ => False)
def tPk (i : Nat) (m : Ev → W Bool) : Ev → W Bool := fun env P Z => match env[i]? with
  | some (.own l) => m ((env.set i (.sh (.lst l))).map noOwn) P (fun _ => False)
  | some (.odc _ ks ws) => m ((env.set i (.sh (.dic ks ws))).map noOwn) P (fun _ => False)
  | _ => m env P (fun _ => False)
section
variable {T : List (Addr × Str)} {n : Nat} {X : Cx} {g : Gd} {B : Hp × Hp} {E : XK} {a b : Expr} {es : List Expr} {ma mb mk mv : EM} {mc : Ev → W Bool} {ml : Ev → W (List D)} {p p2 pos pos2 : Pos}
theorem CxK.ef (c : CxK T n X g E) : CxK T n X g EF := ⟨c.room, c.tb, c.gd, takesF fun _ _ _ z => z, c.calm⟩
def pkD (s : Slot) (d : D) (u : HO) : Prop := match s with
  | .own l => d = .lst l
  | .odc _ ks ws => d = .dic ks ws ∧ ∀ vs, u ≠ .lst vs
  | _ => True
def pkE (s : Slot) (d : D) : Prop := match s with
  | .own l => d = .lst l
  | .odc _ ks ws => d = .dic ks ws
  | _ => True
theorem Ok.peek {K : PySem.W.Frag} {mg : Str → Option Value} {env : Ev} {S H : Hp} {σ : L2.St} {i : Nat} (ok : Ok K mg g B env S σ H) {s : Slot} (e : env[i]? = some s) (hs : s.holds = true) : ∃ (q : Addr) (u : HO) (d : D), σ[i]? = some (some (.ref q)) ∧ S q = none ∧ H q = some u ∧ Mut u ∧
    pkD s d u ∧ Ok K mg g (upd S q u, H) ((env.set i (.sh d)).map DL.noOwn) (upd S q u) σ H := by
  cases s with
  | un => cases hs
  | sh d => cases hs
  | own l =>
    obtain ⟨q, vs, h1, h2, h3, h4, h5, h6⟩ := ok.slots i _ e
    refine ⟨q, _, .lst l, h1, h2, h5, .lst, rfl, ?_⟩
    have ex : Ex S (upd S q (.lst vs)) := fun x o z => by rw [upd_ne (fun w => by rw [w, h2] at z; cases z)]; exact z
    exact ((ok.freeze (d := .lst l) e rfl h1 h2 h3 h4 h5 .lst (by unfold Rep; exact ⟨q, vs, rfl, upd_same, h6.mono ex⟩)).1).noOwn
  | odc bk ks ws =>
    obtain ⟨q, u, us, h1, h2, h3, h4, h5, h6, h7⟩ := ok.slots i _ e
    refine ⟨q, u, .dic ks ws, h1, h2, h5, .dic h6, ⟨rfl, fun vs z => ?_⟩, ?_⟩
    · subst z
      rcases dicH_cases h6 with ⟨_, z⟩ | ⟨_, z⟩ <;> cases z
    · have ex : Ex S (upd S q u) := fun x o z => by rw [upd_ne (fun w => by rw [w, h2] at z; cases z)]; exact z
      exact ((ok.freeze (d := .dic ks ws) e rfl h1 h2 h3 h4 h5 (.dic h6) (by unfold Rep; exact ⟨q, us, u, bk, rfl, upd_same, h6, h7.mono ex⟩)).1).noOwn
theorem de_pk {i : Nat} (ha : ∀ B', DE X g B' EF a ma) : DE X g B E a (ePk i ma) := by
  refine pe_imp (pe_any (t := fun B1 => clo X g B1 EF ma) ha) fun σ H Q h => ?_
  obtain ⟨env, S, P, Z, ok, hm, k, kx⟩ := h
  unfold ePk at hm
  have fin : ∀ (s : Slot) (d0 : D) (bb : Bool), env[i]? = some s → s.holds = true → (∀ (u : HO), pkD s d0 u → bb = true → ∀ vs, u ≠ .lst vs) → pkE s d0 → ma ((env.set i (.sh d0)).map noOwn) (fun d => nD bb d = true ∧ P d) (fun _ => False) → ∃ B', clo X g B' EF ma σ H Q := by
    intro s d0 bb e hs hb hd hm
    obtain ⟨q, u, d, h1, h2, h3, h4, h5, ok2⟩ := ok.peek e hs
    have ed : d = d0 := by
      cases s with
      | un => cases hs
      | sh _ => cases hs
      | own l => exact h5.trans hd.symm
      | odc _ _ _ => exact h5.1.trans hd.symm
    subst ed
    refine ⟨_, _, _, _, _, ok2, hm, fun d v S' H' pd ok' ex r => ?_, fun x cls dx S' H' z => z.elim⟩
    obtain ⟨f2, hp⟩ := Frm.off ok.frm.kn h2 h3 h4 ok'.frm
    exact k d v _ H' pd.2 (ok.call f2) f2.ss (Rep.off hp h4 (hb u h5) d v pd.1 r)
  cases e : env[i]? with
  | none =>
    rw [e] at hm
    exact ⟨B, env, S, P, _, ok, hm, k, fun x cls dx S' H' z => z.elim⟩
  | some s =>
    rw [e] at hm
    cases s with
    | un => exact ⟨B, env, S, P, _, ok, hm, k, fun x cls dx S' H' z => z.elim⟩
    | sh d => exact ⟨B, env, S, P, _, ok, hm, k, fun x cls dx S' H' z => z.elim⟩
    | own l => exact fin _ (.lst l) false e rfl (fun _ _ z => by cases z) rfl hm
    | odc bk ks ws => exact fin _ (.dic ks ws) true e rfl (fun _ z _ => z.2) rfl hm
theorem dt_pk {i : Nat} (ha : ∀ B', DT X g B' EF a mc) : DT X g B E a (tPk i mc) := by
  have hany : L2.PT X a (fun σ H Q => ∃ B', cloT X g B' EF mc σ H Q) := ⟨fun pins s σ H Q I ⟨B', q⟩ => (ha B').run pins s σ H Q I q⟩
  refine pt_imp hany fun σ H Q h => ?_
  obtain ⟨env, S, P, Z, ok, hm, k, kx⟩ := h
  unfold tPk at hm
  have fin : ∀ (s : Slot) (d0 : D), env[i]? = some s → s.holds = true → pkE s d0 → mc ((env.set i (.sh d0)).map noOwn) P (fun _ => False) → ∃ B', cloT X g B' EF mc σ H Q := by
    intro s d0 e hs hd hm
    obtain ⟨q, u, d, h1, h2, h3, h4, h5, ok2⟩ := ok.peek e hs
    have ed : d = d0 := by
      cases s with
      | un => cases hs
      | sh _ => cases hs
      | own l => exact h5.trans hd.symm
      | odc _ _ _ => exact h5.1.trans hd.symm
    subst ed
    refine ⟨_, _, _, _, _, ok2, hm, fun t S' H' pd ok' ex => ?_, fun x cls dx S' H' z => z.elim⟩
    obtain ⟨f2, hp⟩ := Frm.off ok.frm.kn h2 h3 h4 ok'.frm
    exact k t _ H' pd (ok.call f2) f2.ss
  cases e : env[i]? with
  | none =>
    rw [e] at hm
    exact ⟨B, env, S, P, _, ok, hm, k, fun x cls dx S' H' z => z.elim⟩
  | some s =>
    rw [e] at hm
    cases s with
    | un => exact ⟨B, env, S, P, _, ok, hm, k, fun x cls dx S' H' z => z.elim⟩
    | sh d => exact ⟨B, env, S, P, _, ok, hm, k, fun x cls dx S' H' z => z.elim⟩
    | own l => exact fin _ (.lst l) e rfl rfl hm
    | odc bk ks ws => exact fin _ (.dic ks ws) e rfl rfl hm
end
end DL

set_option Elab.async false
set_option linter.all false
set_option maxRecDepth 100000
set_option maxHeartbeats 4000000
/-! ED: own dicts; comprehensions over a dict; own lists with things; mixed calls. -/
namespace DL
open PySem PySem.Spec PyProof.Rows L2
/-! ### own dicts -/
@[simp] def sDn (i : Nat) : SM := fun env k => k.nx (env.set i (.odc true [] []))
/-- d[key] = v: rows as keys -/
def sDp (i : Nat) (mk mv : EM) : SM := fun env k => match env[i]? with
  | some (.odc true ks ws) => mv env (fun v => mk env (fun kd => match itsOf ks, itOf kd with
    | some nss, some ns => ks.length < 16777216 ∧ (if ns ∈ nss then k.nx (env.set i (.odc true ks ((nss.zip ws).map fun q => if q.1 = ns then v else q.2))) else k.nx (env.set i (.odc true (ks ++ [kd]) (ws ++ [v]))))
    | _, _ => False) k.er) k.er
  | _ => False
section
variable {T : List (Addr × Str)} {n : Nat} {X : Cx} {g : Gd} {B : Hp × Hp} {E : XK} {a b : Expr} {es : List Expr} {ma mb mk mv : EM} {mc : Ev → W Bool} {ml : Ev → W (List D)} {p p2 pos pos2 : Pos}
theorem ds_dn {i : Nat} {x : Str} {pos' : Pos} (hN : X.N.Nodup) (hi : X.N[i]? = some x := by rfl) (hx : Loc X.env.scope x := by first | exact Or.inl rfl | exact Or.inr rfl)
    (hs : swapsWith (.Dict [] [] pos2) (some (.Name x pos')) pos.line X.env = pure false := by rfl) (hf : X.fn x = true ∨ X.env.scope.names.lookup x = some .local := by first | exact .inl rfl | exact .inr rfl) : DS X g B E (.Assign [.Name x pos'] (.Dict [] [] pos2) pos) (sDn i) :=
  ps_imp (ps_set (i := i) hN hi hx pe_dnewT hs hf) fun De σ H h => by
    obtain ⟨env, S, k, ok, hm, kk⟩ := h
    exact fun q hq => kk.nx _ S _ _ hm (ok.odc i hq (.inr ⟨rfl, [], rfl, rfl, List.nodup_nil, rfl⟩) Reps.nil) (Ex.rf _)
theorem reps_put {S : Hp} {ns : List Int} {v : D} {w : V} (rv : Rep X.K X.mg g S v w) : ∀ {nss : List (List Int)} {ws : List D} {us : List V}, Reps X.K X.mg g S ws us → Reps X.K X.mg g S ((nss.zip ws).map fun q => if q.1 = ns then v else q.2) (((nss.map fun ns => ns.map (Sum.inl (β := Str))).zip us).map fun q => if q.1 = ns.map Sum.inl then w else q.2)
  | [], ws, us, r => Reps.nil
  | m :: nss, [], us, r => by
    unfold Reps at r
    rw [r, List.zip_nil_right, List.zip_nil_right]
    exact Reps.nil
  | m :: nss, d :: ws, us, r => by
    unfold Reps at r
    obtain ⟨u, us, rfl, r1, r2⟩ := r
    rw [List.map_cons, List.zip_cons_cons, List.zip_cons_cons, List.map_cons, List.map_cons]
    refine Reps.cons ?_ (reps_put rv r2)
    by_cases e : m = ns
    · rw [if_pos e, if_pos (by rw [e])]
      exact rv
    · rw [if_neg e, if_neg (fun z => e ?_)]
      · exact r1
      · have z1 : (m.map (Sum.inl (β := Str))).map kV = (ns.map Sum.inl).map kV := congrArg _ z
        rw [kv_inl, kv_inl] at z1
        have z2 := congrArg (List.map intV) z1
        rwa [intV_map, intV_map] at z2
theorem inl_inj {m ns : List Int} (z : m.map (Sum.inl (β := Str)) = ns.map Sum.inl) : m = ns := by
  have z1 : (m.map (Sum.inl (β := Str))).map kV = (ns.map Sum.inl).map kV := congrArg _ z
  rw [kv_inl, kv_inl] at z1
  have z2 := congrArg (List.map intV) z1
  rwa [intV_map, intV_map] at z2
theorem zip_put {κ : Type} [DecidableEq κ] (k : κ) (w : V) : ∀ (keys : List κ) (us : List V), (keys.zip us).map (fun kv => if kv.1 = k then (kv.1, w) else kv) = keys.zip ((keys.zip us).map fun q => if q.1 = k then w else q.2)
  | [], us => rfl
  | _ :: _, [] => rfl
  | x :: keys, u :: us => by
    rw [List.zip_cons_cons, List.map_cons, List.map_cons, List.zip_cons_cons, zip_put k w keys us]
    congr 1
    by_cases e : x = k
    · rw [if_pos e, if_pos e]
    · rw [if_neg e, if_neg e]
theorem any_zip {κ : Type} [DecidableEq κ] (k : κ) : ∀ (keys : List κ) (us : List V), us.length = keys.length → ((keys.zip us).any fun kv => decide (kv.1 = k)) = decide (k ∈ keys)
  | [], us, _ => by simp
  | _ :: _, [], h => by cases h
  | x :: keys, u :: us, h => by
    rw [List.zip_cons_cons, List.any_cons, any_zip k keys us (by simpa using h), Bool.eq_iff_iff, Bool.or_eq_true, decide_eq_true_iff, decide_eq_true_iff, decide_eq_true_iff, List.mem_cons]
    exact ⟨fun z => z.imp Eq.symm id, fun z => z.imp Eq.symm id⟩
theorem ds_dp {i : Nat} {x : Str} {p1 tpos : Pos} (c : CxK T n X g E) (ha : DE X g B E a mk) (hb : DE X g B E b mv) (hN : X.N[i]? = some x := by rfl) (hv : Vis X.env.scope x := by first | exact Or.inl rfl | exact Or.inr (Or.inl rfl) | exact Or.inr (Or.inr rfl))
    (hd : (x == ("__debug__" : Str)) = false := by decide) (hcd : (x == ("__classdict__" : Str)) = false := by decide)
    (hsw : swapsWith b (some (.Subscript (.Name x p1) a tpos)) pos.line X.env = pure false := by rfl) : DS X g B E (.Assign [.Subscript (.Name x p1) a tpos] b pos) (sDp i mk mv) :=
  ps_imp (ps_dput (by have := c.un; omega) (pe_var (i := i) hN hv hd hcd) ha hb hsw) fun De σ H h => by
    obtain ⟨env, S, k, ok, hm, kk⟩ := h
    unfold sDp at hm
    split at hm
    · rename_i ks ws e
      obtain ⟨q, u, us, h1, h2, h3, h4, h5, h6, h7⟩ := ok.slots i _ e
      refine ⟨env, S, _, _, ok, hm, fun v w S1 H1 p1 ok1 ex1 r1 => ⟨.ref q, h1, env, S1, _, _, ok1, p1, fun kd y S2 H2 p2 ok2 ex2 r2 => ?_, kk.er⟩, kk.er⟩
      obtain ⟨q', u', us', y1, y2, y3, y4, y5, y6, y7⟩ := ok2.slots i _ e
      rw [h1] at y1
      have eq' : q = q' := by simpa using y1
      subst eq'
      split at p2
      · rename_i nss ns e1 e2
        rcases y6 with ⟨z, _⟩ | ⟨_, keys, z1, z2, z3, z4⟩
        · cases z
        have ek : keys = nss.map fun ns => ns.map Sum.inl := keys_rows (by rw [← z1]; exact itsOf_eq e1)
        have er : kd = rowD ns := itOf_eq e2
        rw [er] at r2
        obtain ⟨bb, rfl, hb⟩ := rep_row ok2.frm.le r2
        subst z4
        have hb2 : H2 bb = some (.tup ((ns.map Sum.inl).map kV)) := by
          rw [hb]
          exact congrArg (fun l => some (HO.tup l)) (kv_inl ns).symm
        have hlen : ks.length = keys.length := by rw [z1, List.length_map]
        have hz : (keys.zip us').length < sizeLine := by
          rw [List.length_zip, sizeLine_eq, z2]
          omega
        have hmem : ns.map Sum.inl ∈ keys ↔ ns ∈ nss := by
          rw [ek, List.mem_map]
          exact ⟨fun ⟨m, hm, z⟩ => by rw [← inl_inj z]; exact hm, fun z => ⟨ns, z, rfl⟩⟩
        have rw1 := r1.mono ex2
        refine ⟨q, _, rfl, DPut.t (k := ns.map Sum.inl) (v := w) y5 hb2 hz, ?_⟩
        by_cases hq : ns ∈ nss
        · rw [if_pos hq] at p2
          refine kk.nx _ S2 _ _ p2.2 (ok2.wrD (us := ((keys.zip us').map fun q => if q.1 = ns.map Sum.inl then w else q.2)) e h1 (.inr ⟨rfl, keys, z1, ?_, z3, ?_⟩) ?_) (ex1.tr ex2)
          · rw [List.length_map, List.length_zip, z2]
            omega
          · unfold putK
            rw [if_pos (by rw [any_zip (κ := List L2.Key) _ _ _ z2]; simpa using hmem.mpr hq), zip_put]
          · rw [ek]
            exact reps_put (nss := nss) rw1 y7
        · rw [if_neg hq] at p2
          refine kk.nx _ S2 _ _ p2.2 (ok2.wrD (us := us' ++ [w]) e h1 (.inr ⟨rfl, keys ++ [ns.map Sum.inl], ?_, ?_, ?_, ?_⟩) (y7.app (Reps.cons rw1 Reps.nil))) (ex1.tr ex2)
          · rw [List.map_append, z1, er]
            unfold rowD tD
            rw [List.map_cons, List.map_map]
            rfl
          · rw [List.length_append, List.length_append, z2]
            rfl
          · rw [List.nodup_append]
            refine ⟨z3, by simp, fun a ha b hb z => ?_⟩
            rw [List.mem_singleton.mp hb] at z
            exact hq (hmem.mp (by rw [← z]; exact ha))
          · unfold putK
            rw [if_neg (by rw [any_zip (κ := List L2.Key) _ _ _ z2]; simpa using fun z => hq (hmem.mp z)), List.zip_append z2.symm]
            rfl
      · exact p2.elim
    · exact hm.elim
end
end DL

set_option Elab.async false
set_option linter.all false
set_option maxRecDepth 100000
set_option maxHeartbeats 4000000
/-! EE: comprehensions over a dict; own lists with things; mixed calls. -/
namespace DL
open PySem PySem.Spec PyProof.Rows L2
theorem noOwn_idem (s : Slot) : noOwn (noOwn s) = noOwn s := by cases s <;> rfl
theorem blkE_noOwn (own : List Nat) (env : Ev) : blkE own (env.map noOwn) = blkE own env := by
  unfold blkE
  rw [List.map_map]
  congr 1
  exact List.map_congr_left fun s _ => noOwn_idem s
section
variable {g : Gd} {S H S' H' : Hp} {p : Addr} {o : HO} {od : Obj}
/-- locked -/
theorem Frm.frz {B : Hp × Hp} (f : Frm g B.1 B.2 S H) (hS : S p = some o) (hH : H p = some o) (hm : Mut o) (hd : isDic o = true) : Frm g S (upd H p (.frz od o)) S (upd H p (.frz od o)) where
  ss := Ex.rf _
  le := fun a u h => by
    by_cases q : a = p
    · subst q
      rw [hS] at h
      cases h
      exact .inr ⟨hd, od, upd_same⟩
    · rw [upd_ne q]
      exact f.le a u h
  fr := fun _ _ h _ _ => h
  al := fun _ h => Nn.of h
  nw := fun _ _ h => .inl h
  dw := g.dwk _ _ (fun b hb => upd_ne fun q => by
    have z := f.rs b hb
    rw [q, hS] at z
    cases z) f.dw
  rs := f.rs
  tb := tabs_upd f.tb hH hm.nt.2 hm.nx
  nt := f.nt
  kn := f.kn
theorem Frm.unfrz (hS : S p = some o) (hH : H p = some o) (hm : Mut o) (nR : p ∉ g.R) (f : Frm g S (upd H p (.frz od o)) S' H') : Frm g S H S' (upd H' p o) ∧ H' p = some (.frz od o) := by
  have hp : H' p = some (.frz od o) := f.fr p _ upd_same nR fun ps z => by cases z
  refine ⟨⟨f.ss, fun a u h => ?_, fun a u h1 h2 h3 => ?_, fun a h => ?_, fun a u h => ?_, ?_, f.rs, ?_, f.nt, f.kn⟩, hp⟩
  · by_cases q : a = p
    · subst q
      rw [f.ss _ _ hS] at h
      cases h
      exact .inl upd_same
    · rw [upd_ne q]
      exact f.le a u h
  · by_cases q : a = p
    · subst q
      rw [hH] at h1
      cases h1
      exact upd_same
    · rw [upd_ne q]
      exact f.fr a u (by rw [upd_ne q]; exact h1) h2 h3
  · by_cases q : a = p
    · rw [q, upd_same] at h
      cases h
    · rw [upd_ne q] at h
      have z := f.al a h
      intro u hu
      exact z u (by rw [upd_ne q]; exact hu)
  · by_cases q : a = p
    · subst q
      rw [f.ss _ _ hS] at h
      cases h
      exact .inl hS
    · rcases f.nw a u h with z | z | z
      · exact .inl z
      · exact .inr (.inl fun w hw => z w (by rw [upd_ne q]; exact hw))
      · rw [upd_ne q] at z
        exact .inr (.inr z)
  · exact g.dwk _ _ (fun b hb => upd_ne fun q => nR (by rw [← q]; exact hb)) f.dw
  · exact tabs_upd f.tb hp (fun ps z => by cases z) (fun φ z => by cases z)
end
/-- [.. for t in d], d a name that holds a dict -/
def eLcD (j : Nat) (own : List Nat) (T : D → Ev → Option Ev) (mc : Ev → W Bool) (me : EM) : EM := fun env P Z => match env[j]? with
  | some (.sh (.dic ks _)) => ks.length < 16777216 ∧ lcE T mc me (blkE own env) ks (fun ys => P (.lst ys)) (fun _ => False)
  | _ => False
theorem reps_keyV {K : PySem.W.Frag} {mg : Str → Option Value} {g : Gd} {S : Hp} : ∀ k : List L2.Key, Reps K mg g S (k.map kD) (k.map kV)
  | [] => Reps.nil
  | .inl i :: r => Reps.cons (by unfold kD Rep; rfl) (reps_keyV r)
  | .inr x :: r => Reps.cons (by unfold kD Rep; rfl) (reps_keyV r)
section
variable {X : Cx} {g : Gd} {B : Hp × Hp} {E : XK} {elt tg : Expr} {ifs : List Expr} {scope : Scope} {own : List (Str × Nat)} {pos p1 : Pos} {gT : TG} {T : D → Ev → Option Ev} {vT : List Nat} {mc : Ev → W Bool} {me : EM} {x : Str} {j : Nat}
/-- the keys of a locked dict -/
theorem it_keysK {S L : Hp} {q : Addr} {ob : Obj} {keys : List L2.Key} {us : List V} (hl : us.length = keys.length) (nR : q ∉ g.R) (h : L q = some (.frz ob (.dK (keys.zip us)))) : ItOk2 X.K X.mg g S L (Itk q ob (keys.zip us)) (keys.map kD) := fun i S2 H2 e2 l2 kp => by
  have hq := kp q _ h nR fun ps z => by cases z
  refine ⟨fun d hd => ?_, fun hn => ?_⟩
  · rw [List.getElem?_map] at hd
    cases e : keys[i]? with
    | none =>
      rw [e] at hd
      cases hd
    | some k =>
      rw [e] at hd
      cases hd
      have hi := (List.getElem?_eq_some_iff.mp e).1
      refine ⟨⟨hq, by rw [List.length_zip, hl]; omega⟩, fun w H3 y => ?_⟩
      obtain ⟨rfl, k', v, z1, rfl⟩ := y
      rw [List.getElem?_zip_eq_some] at z1
      rw [e] at z1
      have ek : k = k' := Option.some.inj z1.1
      subst ek
      refine ⟨S2, New.rf l2, ?_⟩
      cases k with
      | inl i => exact ri i S2
      | inr x => exact rs x S2
  · have := List.getElem?_eq_none_iff.mp hn
    rw [List.length_map] at this
    exact ⟨hq, by rw [List.length_zip, hl]; omega⟩
theorem it_keysT {S L : Hp} {q : Addr} {ob : Obj} {keys : List (List L2.Key)} {us : List V} (hl : us.length = keys.length) (nR : q ∉ g.R) (h : L q = some (.frz ob (.dT (keys.zip us)))) : ItOk2 X.K X.mg g S L (Itkt q ob (keys.zip us)) (keys.map tD) := fun i S2 H2 e2 l2 kp => by
  have hq := kp q _ h nR fun ps z => by cases z
  refine ⟨fun d hd => ?_, fun hn => ?_⟩
  · rw [List.getElem?_map] at hd
    cases e : keys[i]? with
    | none =>
      rw [e] at hd
      cases hd
    | some k =>
      rw [e] at hd
      cases hd
      have hi := (List.getElem?_eq_some_iff.mp e).1
      refine ⟨⟨hq, by rw [List.length_zip, hl]; omega⟩, fun w H3 y => ?_⟩
      obtain ⟨rfl, k', v, a, z1, rfl, z2⟩ := y
      rw [List.getElem?_zip_eq_some] at z1
      rw [e] at z1
      have ek : k = k' := Option.some.inj z1.1
      subst ek
      have n1 := New.adopt l2 z2
      refine ⟨_, n1, ?_⟩
      unfold tD Rep
      exact ⟨a, _, rfl, upd_same, reps_keyV k⟩
  · have := List.getElem?_eq_none_iff.mp hn
    rw [List.length_map] at this
    exact ⟨hq, by rw [List.length_zip, hl]; omega⟩
theorem de_lcD (hc : X.calm = true) (hN : X.N.Nodup) (ok : BlkOk X.N X.env.scope scope own)
    (hg : ∀ (s : Shared) (H : Hp) (C : Addr) (cl : List (Str × Addr)) (fp : List Addr), PG (X.blk s H scope (compEnvC scope cl C X.env) fp) tg gT) (tk : TgOk X g gT T vT) (hsub : ∀ i ∈ vT, i ∈ own.map (·.2))
    (ht : ∀ (s : Shared) (H : Hp) (C : Addr) (cl : List (Str × Addr)) (fp : List Addr) (B' : Hp × Hp), DTs (X.blk s H scope (compEnvC scope cl C X.env) fp) g B' EF ifs mc)
    (he : ∀ (s : Shared) (H : Hp) (C : Addr) (cl : List (Str × Addr)) (fp : List Addr) (B' : Hp × Hp), DE (X.blk s H scope (compEnvC scope cl C X.env) fp) g B' EF elt me)
    (hj : X.N[j]? = some x := by rfl) (hv : Vis X.env.scope x := by first | exact Or.inl rfl | exact Or.inr (Or.inl rfl) | exact Or.inr (Or.inr rfl)) (hd : (x == ("__debug__" : Str)) = false := by decide)
    (hcd : (x == ("__classdict__" : Str)) = false := by decide) (hs : ∀ y, foldedSetIterable (.Name x p1) X.env y = pure y := by intro _; rfl) :
    DE X g B E (.ListComp elt [⟨tg, .Name x p1, ifs, 0⟩] scope pos) (eLcD j (own.map (·.2)) T mc me) := by
  have base : PE X (.ListComp elt [⟨tg, .Name x p1, ifs, 0⟩] scope pos) (tLc (iKeys (tVar j)) gT (fun σ H Q => ∃ B', cloT X g B' EF mc σ H Q) (fun σ H Q => ∃ B', clo X g B' EF me σ H Q) (own.map (·.2))) :=
    pe_lc hc hN (pi_keys (pe_var hj hv hd hcd)) ok hg (fun s H C cl fp => pt_any (t := fun B1 => cloT X g B1 EF mc) fun B' => ht s H C cl fp B') (fun s H C cl fp => pe_any (t := fun B1 => clo X g B1 EF me) fun B' => he s H C cl fp B') hs
  have both : PE X (.ListComp elt [⟨tg, .Name x p1, ifs, 0⟩] scope pos) (fun σ H Q => ∃ b : Bool, if b = true then tLockE (tLc (iKeys (tVar j)) gT (fun σ H Q => ∃ B', cloT X g B' EF mc σ H Q) (fun σ H Q => ∃ B', clo X g B' EF me σ H Q) (own.map (·.2))) σ H Q
      else tLc (iKeys (tVar j)) gT (fun σ H Q => ∃ B', cloT X g B' EF mc σ H Q) (fun σ H Q => ∃ B', clo X g B' EF me σ H Q) (own.map (·.2)) σ H Q) :=
    ⟨fun pins s σ H Q I ⟨b, q⟩ => by
      cases b with
      | true => exact (pe_lock base).run pins s σ H Q I q
      | false => exact base.run pins s σ H Q I q⟩
  refine pe_imp both fun σ H Q h => ?_
  obtain ⟨env, S, P, Z, ok1, hm, k, kx⟩ := h
  unfold eLcD at hm
  split at hm
  · rename_i ks ws e
    obtain ⟨v, hσ, rv⟩ := ok1.slots j _ e
    unfold Rep at rv
    obtain ⟨q, us, o, bk, rfl, h2, h3, h4⟩ := rv
    have nR : q ∉ g.R := fun z => by
      have := ok1.frm.rs q z
      rw [h2] at this
      cases this
    have hmut : Mut o := .dic h3
    have hdic : isDic o = true := by
      rcases dicH_cases h3 with ⟨_, rfl⟩ | ⟨_, rfl⟩ <;> rfl
    -- the loop, in a heap where the dict is locked
    have loop : ∀ (L : Hp) (ob : Obj) (env' : Ev) (B' : Hp × Hp) (Q' : VK), L q = some (.frz ob o) → Ok X.K X.mg g B' env' S σ L → blkE (own.map (·.2)) env' = blkE (own.map (·.2)) env →
        (∀ ys Dd acc S2 H2, P (.lst ys) → Ok X.K X.mg g B' env' S2 σ H2 → Ex S S2 → S2 Dd = none → Nn B'.2 Dd → Dd ∉ g.R → H2 Dd = some (.lst acc) → Reps X.K X.mg g S2 ys acc → (∀ (i : Nat) (a : Addr) (l : Slot), env'[i]? = some l → l.holds = true → σ[i]? = some (some (.ref a)) → a ≠ Dd) → Q' (.ref Dd) H2) →
        tLc (iKeys (tVar j)) gT (fun σ H Q => ∃ B', cloT X g B' EF mc σ H Q) (fun σ H Q => ∃ B', clo X g B' EF me σ H Q) (own.map (·.2)) σ L Q' := by
      intro L ob env' B' Q' hL okL eb kk
      refine ⟨.ref q, hσ, q, ob, rfl, ?_⟩
      rcases h3 with ⟨_, keys, z1, z2, z3, z4⟩ | ⟨_, keys, z1, z2, z3, z4⟩
      · subst z4
        refine .inl ⟨_, hL, ?_⟩
        exact lc_body (P := fun ys => P (.lst ys)) (Z := fun _ => False) tk hsub okL (it_keysK (X := X) z2 nR hL) (by rw [← z1]; exact hm.1) (by rw [eb, ← z1]; exact hm.2) kk
      · subst z4
        refine .inr ⟨_, hL, ?_⟩
        exact lc_body (P := fun ys => P (.lst ys)) (Z := fun _ => False) tk hsub okL (it_keysT (X := X) z2 nR hL) (by rw [← z1]; exact hm.1) (by rw [eb, ← z1]; exact hm.2) kk
    rcases ok1.frm.le q o h2 with hH | ⟨_, ob, hH⟩
    · refine ⟨true, ?_⟩
      rw [if_pos rfl]
      refine ⟨q, o, hH, ?_, fun od => ?_⟩
      · rcases dicH_cases h3 with ⟨_, rfl⟩ | ⟨_, rfl⟩ <;> exact True.intro
      have f1 : Frm g S (upd H q (.frz od o)) S (upd H q (.frz od o)) := ok1.frm.frz h2 hH hmut hdic
      have okL : Ok X.K X.mg g (S, upd H q (.frz od o)) (env.map noOwn) S σ (upd H q (.frz od o)) := ⟨f1, ok1.noOwn.len, fun i s e' => by
        have z := ok1.noOwn.slots i s e'
        rw [List.getElem?_map] at e'
        cases q2 : env[i]? with
        | none =>
          rw [q2] at e'
          cases e'
        | some t =>
          rw [q2] at e'
          cases e'
          cases t with
          | un => trivial
          | sh d => exact z
          | own l => trivial
          | odc _ _ _ => trivial, ok1.noOwn.apart⟩
      refine loop _ od _ _ _ upd_same okL (blkE_noOwn _ _) fun ys Dd acc S2 H2 pd ok2 ex2 s2 nB nD hd2 rp hno => ?_
      obtain ⟨f2, hq2⟩ := Frm.unfrz h2 hH hmut nR ok2.frm
      refine ⟨hq2, ?_⟩
      have nq : Dd ≠ q := fun z => by
        rw [z, hq2] at hd2
        cases hd2
      have ok3 := ok1.call f2
      have nDd : Nn H Dd := fun u hu => nB u (by show upd H q (.frz od o) Dd = some u; rw [upd_ne nq]; exact hu)
      have hno3 : ∀ (i : Nat) (a : Addr) (l : Slot), env[i]? = some l → l.holds = true → σ[i]? = some (some (.ref a)) → a ≠ Dd := fun i a l e1 o1 e2 w => by
        obtain ⟨a', u', w1, w2, w3, w4, w5, w6⟩ := (ok1.slots i _ e1).at_ o1
        rw [e2] at w1
        have w7 : a = a' := by simpa using w1
        rw [← w7, w] at w5
        obtain ⟨ps, z⟩ := nDd _ w5
        exact w6.nt.2 ps z
      have hd3 : upd H2 q o Dd = some (.lst acc) := by rw [upd_ne nq]; exact hd2
      have ok4 := ok3.adopt s2 (fun u hu => ok1.frm.back nDd u hu) nD hd3 hno3
      have ex3 : Ex S2 (upd S2 Dd (.lst acc)) := fun b o z => by
        rw [upd_ne (fun w => by rw [w, s2] at z; cases z)]
        exact z
      exact k (.lst ys) _ _ _ pd ok4 (ex2.tr ex3) (by unfold Rep; exact ⟨Dd, acc, rfl, upd_same, rp.mono ex3⟩)
    · refine ⟨false, ?_⟩
      rw [if_neg (by decide)]
      refine loop H ob env B Q hH ok1 rfl fun ys Dd acc S2 H2 pd ok2 ex2 s2 nB nD hd2 rp hno => ?_
      have ok4 := ok2.adopt s2 nB nD hd2 hno
      have ex3 : Ex S2 (upd S2 Dd (.lst acc)) := fun b o z => by
        rw [upd_ne (fun w => by rw [w, s2] at z; cases z)]
        exact z
      exact k (.lst ys) _ _ _ pd ok4 (ex2.tr ex3) (by unfold Rep; exact ⟨Dd, acc, rfl, upd_same, rp.mono ex3⟩)
  · exact hm.elim
end
end DL

set_option Elab.async false
set_option linter.all false
set_option maxRecDepth 100000
set_option maxHeartbeats 4000000
/-! EG: own lists with things; x, y = e, []; mixed calls. -/
namespace DL
open PySem PySem.Spec PyProof.Rows L2
/-- x = [e, ..], a list that x alone holds -/
@[simp] def sLi (i : Nat) (ml : Ev → W (List D)) : SM := fun env k => ml env (fun ds => ds.length ≤ 16777216 ∧ k.nx (env.set i (.own ds))) k.er
/-- x, y = e, [] -/
@[simp] def sPq (i j : Nat) (a : EM) : SM := fun env k => a env (fun d => k.nx ((env.set i (.sh d)).set j (.own []))) k.er
@[simp] def aApp (a b : Ev → W (List D)) : Ev → W (List D) := fun env P Z => a env (fun ds => b env (fun es => P (ds ++ es)) Z) Z
section
variable {T : List (Addr × Str)} {k n : Nat} {X : Cx} {g : Gd} {B : Hp × Hp} {E : XK} {a b : Expr} {es : List Expr} {kws : List Keyword} {ma mb : EM} {ml mk : Ev → W (List D)} {p p2 pos pos2 : Pos} {x : Str} {st : Stmt} {ps : List Str} {F : List D → W D}
theorem ds_li {i : Nat} {pos' : Pos} (hN : X.N.Nodup) (ha : DAr X g B E es ml) (hi : X.N[i]? = some x := by rfl) (hx : Loc X.env.scope x := by first | exact Or.inl rfl | exact Or.inr rfl)
    (hs : swapsWith (.List es pos2) (some (.Name x pos')) pos.line X.env = pure false := by rfl) (hf : X.fn x = true ∨ X.env.scope.names.lookup x = some .local := by first | exact .inl rfl | exact .inr rfl) : DS X g B E (.Assign [.Name x pos'] (.List es pos2) pos) (sLi i ml) :=
  ps_imp (ps_set (i := i) hN hi hx (pe_lst ha) hs hf) fun De σ H h => by
    obtain ⟨env, S, k, ok, hm, kk⟩ := h
    refine ⟨env, S, _, k.er, ok, hm, fun ds vs S' H' q ok' ex r => ⟨by rw [← r.len, sizeLine_eq]; exact q.1, fun t ht => ?_⟩, kk.er⟩
    exact kk.nx _ S' _ _ q.2 (ok'.own i ht r) ex
theorem ds_pq {i j : Nat} {y : Str} {px py pt : Pos} {kt k2 : Nat} {pt2 : Pos} (hc : X.calm = true) (hN : X.N.Nodup) (ha : DE X g B E a ma) (hi : X.N[i]? = some x := by rfl) (hj : X.N[j]? = some y := by rfl) (hij : i ≠ j := by decide)
    (hx : X.env.scope.names.lookup x = some .local := by rfl) (hy : X.env.scope.names.lookup y = some .local := by rfl)
    (hw : swappedStores [.Tuple [.Name x px, .Name y py] kt pt] (.Tuple [a, .List [] p2] k2 pt2) X.env = pure (some [x, y]) := by rfl)
    (hs : swapsWithSole [.Tuple [.Name x px, .Name y py] kt pt] (.Tuple [a, .List [] p2] k2 pt2) pos.line X.env = pure false := by rfl) (hst : isStar a = false := by rfl) :
    DS X g B E (.Assign [.Tuple [.Name x px, .Name y py] kt pt] (.Tuple [a, .List [] p2] k2 pt2) pos) (sPq i j ma) :=
  ps_imp (ps_par (i := i) (j := j) hc hN hi hj hij hx hy (pa_cons ha (pa_cons (pe_lst pa_nil) pa_nil (st_one rfl)) (st_one hst)) hw hs) fun De σ H h => by
    obtain ⟨env, S, k, ok, hm, kk⟩ := h
    refine ⟨env, S, _, k.er, ok, hm, fun d v S' H' q ok' ex r => ⟨by rw [sizeLine_eq]; show 0 ≤ 16777216; omega, fun t ht => ?_⟩, kk.er⟩
    exact ⟨v, .ref t, rfl, kk.nx _ S' _ _ q ((ok'.set i r).own j ht Reps.nil) ex⟩
/-- f(e, .., k = e, ..) -/
theorem de_callKM {ks : List Str} {js : List Nat} {m : Nat} (f : FnD X.prog X.w X.K X.mg X.base T k x st ps F) (c : CxK T n X g E) (hk : k ≤ n) (hg : Gl X x) (ha : DAr X g B E (a :: es) ml) (hw : DK X g B E kws mk)
    (hb : ∀ (kV doc pm : Value) (an : Option Addr) (cdv ct : Value) (ws zs : List Value), ws.length = m → zs.length = ks.length → bindArgs (PySem.W.fnOf x x (defArgs st) (defBody st) (defScope st) .none kV doc pm an cdv ct) ⟨ws, ks.zip zs⟩ = pure (ps.zip (js.map fun j => (ws ++ zs).getD j .none)))
    (hjl : js.length = ps.length := by rfl) (hjs : ∀ j ∈ js, j < m + ks.length := by decide)
    (hall : (backToKw pos (keywordEach kws X.env)).all (·.1.isSome) = true := by rfl) (hks : (backToKw pos (keywordEach kws X.env)).filterMap (·.1) = ks := by rfl) (hdb : (x == ("__debug__" : Str)) = false := by decide)
    (hpl : ((backTo pos (starEach (a :: es) X.env)).any (·.1) || (backToKw pos (keywordEach kws X.env)).any (·.1.isNone)) = false := by rfl) (hst : noStar (a :: es) = true := by rfl) :
    {np : Nat} → (hnp : ps.length = np := by rfl) → DE X g B E (.Call (.Name x p) (a :: es) kws pos) (fun env P Z => ml env (fun ds => mk env (fun es => (ds.length = m ∧ es.length = ks.length) ∧ F (js.map fun j => (ds ++ es).getD j .non) P Z) Z) Z) := by
  intro np hnp
  subst hnp
  obtain ⟨fa, fd, h1, h2, h3, h5⟩ := f.ex
  refine ⟨fun pins s σ H Q I h => ?_⟩
  obtain ⟨env, S, P, Z, ok, hm, kq, kx⟩ := h
  refine wpAny_Call_Name_kw (ld_glob I hg h1 ?_ hdb)
  refine PySem.W.callWith_KW (h₀ := X.base) I.ok.mod.kin h2.kp hall (thn (ha.run pos pins s σ H (fun vs H1 => cloA X g B E mk σ H1 (fun zs H2 => (vs.length = m ∧ zs.length = ks.length) ∧ spD X.K X.mg T ps.length F (js.map fun j => (vs ++ zs).getD j .non) H2 Q E)) I ⟨env, S, _, Z, ok, hm, fun ds vs S1 H1 q ok1 ex r => ?_, kx⟩) fun us s1 hh => ?_) hpl (st_cons hst)
  · refine ⟨env, S1, _, Z, ok1, q, fun es zs S2 H2 q2 ok2 ex2 r2 => ?_, kx⟩
    have rr := (r.mono ex2).app r2
    have hl1 : vs.length = m := by rw [← r.len]; exact q2.1.1
    have hl2 : zs.length = ks.length := by rw [← r2.len]; exact q2.1.2
    refine ⟨⟨hl1, hl2⟩, call_sp c.tb ok2 ?_ q2.2 (by rw [List.length_map]; exact hjl) (fun d v S3 H3 q3 ok3 ex3 r3 => kq d v S3 H3 q3 ok3 ((ex.tr ex2).tr ex3) r3) kx⟩
    have hz : ∀ l : List Nat, (∀ j ∈ l, j < m + ks.length) → Reps X.K X.mg g S2 (l.map fun j => (ds ++ es).getD j .non) (l.map fun j => (vs ++ zs).getD j .non) := by
      intro l
      induction l with
      | nil => exact fun _ => Reps.nil
      | cons j l ih =>
        intro hj
        have hd : (ds ++ es)[j]? = some ((ds ++ es).getD j .non) := by
          rw [List.getD_eq_getElem?_getD]
          cases e : (ds ++ es)[j]? with
          | none =>
            have h1 := List.getElem?_eq_none_iff.mp e
            have h2 := hj j List.mem_cons_self
            rw [List.length_append, q2.1.1, q2.1.2] at h1
            omega
          | some d => rfl
        obtain ⟨v, hv, rv⟩ := rr.got hd
        have hv2 : (vs ++ zs).getD j .non = v := by rw [List.getD_eq_getElem?_getD, hv]; rfl
        rw [List.map_cons, List.map_cons, hv2]
        exact Reps.cons rv (ih fun i hi => hj i (List.mem_cons_of_mem _ hi))
    exact hz js hjs
  · obtain ⟨vs, H1, I1, r, q⟩ := hh
    refine thn (hw.run pos pins s1 σ H1 _ I1 q) fun ws s2 ⟨zs, H2, I2, r2, hl, q2⟩ => ?_
    rw [hks]
    refine ⟨I2.kIn, ?_⟩
    obtain ⟨oc, od, kV, doc, pm, an, cdv, ct, osl, e, lk, hc⟩ := h2.ex
    subst e
    have rr : Vals (vs ++ zs) (us ++ ws) := r.append r2
    have rz : ∀ l : List Nat, (∀ j ∈ l, j < m + ks.length) → Vals (l.map fun j => (vs ++ zs).getD j .non) (l.map fun j => (us ++ ws).getD j .none) := by
      intro l
      induction l with
      | nil => exact fun _ => .nil
      | cons j l ih =>
        intro hj
        refine .cons ?_ (ih fun i hi => hj i (List.mem_cons_of_mem _ hi))
        exact vals_at rr j (by rw [List.length_append, hl.1, hl.2]; exact hj j List.mem_cons_self)
    exact run_g h5 (c.mono hk) (BindsTo.of_eq (hb kV doc pm an cdv ct us ws (by rw [← r.length]; exact hl.1) (by rw [← r2.length]; exact hl.2))) I2 (rz js hjs) q2
end
end DL

set_option Elab.async false
set_option linter.all false
set_option maxRecDepth 100000
set_option maxHeartbeats 4000000
/-! EH: module ints, negative ints; raise of a class without __init__; mixed calls, printed. -/
namespace DL
open PySem PySem.Spec PyProof.Rows L2
section
variable {T : List (Addr × Str)} {k n : Nat} {X : Cx} {g : Gd} {B : Hp × Hp} {E : XK} {pos p p2 pos' : Pos} {j : Nat} {x : Str}
theorem de_gx {i : Int} (hm : ∃ t, X.mg x = some (.int i t)) (hg : Gl X x) (hd : (x == ("__debug__" : Str)) = false := by decide) : DE X g B E (.Name x pos) (eC (.int i)) := by
  obtain ⟨t, h⟩ := hm
  exact de_gi hg h hd
theorem de_neg {i : Int} : DE X g B E (.UnaryOp .USub (.Constant (.int i) j p2) pos) (eC (.int (-i))) := by
  refine pe_imp (pe_un un_neg pe_int) fun σ H Q h => ?_
  obtain ⟨env, S, P, Z, ok, hm, k, kx⟩ := h
  exact ⟨i, rfl, k (.int (-i)) _ S H hm ok (Ex.rf _) (ri _ S)⟩
/-- an own exception without an __init__ -/
structure R0C (K : PySem.W.Frag) (mg : Str → Option Value) (x : Str) : Prop where
  ex : ∃ C, mg x = some (.ref C) ∧ PySem.W.excIn K C He.veBase "ValueError.__new__" = true ∧ PySem.W.keepIn K (.ref C) = true ∧ PySem.W.subIn K (.ref C) (.type "BaseException") = some true ∧ PySem.W.typeIn K (.ref C) = some (.type "type")
theorem ds_r00 {m : Str} (R : R0C X.K X.mg x) (c : CxK T n X g E) (hg : Gl X x) (hdb : (x == ("__debug__" : Str)) = false := by decide) : DS X g B E (.Raise (some (.Call (.Name x p) [.Constant (.str m) j p2] [] pos)) none pos') (sR0 x) := by
  obtain ⟨C, h1, h2, h3, h4, h5⟩ := R.ex
  exact ds_r0 c h2 F.excBase_ValueError h1 h3 h4 h5 hg hdb
@[simp] def eFM (m kn : Nat) (js : List Nat) (F : List D → W D) (ml mk : Ev → W (List D)) : EM := fun env P Z => ml env (fun ds => mk env (fun es => (ds.length = m ∧ es.length = kn) ∧ F (js.map fun j => (ds ++ es).getD j .non) P Z) Z) Z
end
end DL

set_option Elab.async false
set_option linter.all false
set_option maxRecDepth 100000
set_option maxHeartbeats 4000000
/-! EI: computations, run: shared by the laws' specs. -/
namespace DL
open PySem PySem.Spec PyProof.Rows L2
theorem kb1 : kitB "NoneType" "int" = some false := by decide +kernel
theorem kb2 : kitB "bool" "int" = some true := by decide +kernel
theorem kb3 : kitB "int" "int" = some true := by decide +kernel
theorem kb4 : kitB "str" "int" = some false := by decide +kernel
theorem kb5 : kitB "tuple" "int" = some false := by decide +kernel
theorem kb6 : kitB "list" "int" = some false := by decide +kernel
theorem kb7 : kitB "bool" "bool" = some true := by decide +kernel
theorem kb8 : kitB "int" "bool" = some false := by decide +kernel
theorem kt1 : kitB "NoneType" "tuple" = some false := by decide +kernel
theorem kt2 : kitB "bool" "tuple" = some false := by decide +kernel
theorem kt3 : kitB "int" "tuple" = some false := by decide +kernel
theorem kt4 : kitB "str" "tuple" = some false := by decide +kernel
theorem kt5 : kitB "tuple" "tuple" = some true := by decide +kernel
theorem kt6 : kitB "list" "tuple" = some false := by decide +kernel
theorem kl1 : kitB "NoneType" "list" = some false := by decide +kernel
theorem kl2 : kitB "bool" "list" = some false := by decide +kernel
theorem kl3 : kitB "int" "list" = some false := by decide +kernel
theorem kl4 : kitB "str" "list" = some false := by decide +kernel
theorem kl5 : kitB "tuple" "list" = some false := by decide +kernel
theorem kl6 : kitB "list" "list" = some true := by decide +kernel
/-- shown within bounds: weight, depth -/
structure FineN (w d : Nat) (p : PyData) : Prop where
  s : p.showable = true
  l : p.leavesShort 100 = true
  w : p.weight ≤ w
  d : p.depth ≤ d
theorem FineN.shown {w d : Nat} {p : PyData} (h : FineN w d p) (hw : w ≤ 100000) (hd : d ≤ 100) : p.showable = true ∧ p.shown.length ≤ 16777216 ∧ p.depth ≤ 100 := by
  refine ⟨h.s, ?_, Nat.le_trans h.d hd⟩
  have z := PyData.shown_le 100 (by decide) p h.l
  have z2 := h.w
  omega
theorem FineN.mono {w d w2 d2 : Nat} {p : PyData} (h : FineN w d p) (hw : w ≤ w2) (hd : d ≤ d2) : FineN w2 d2 p := ⟨h.s, h.l, Nat.le_trans h.w hw, Nat.le_trans h.d hd⟩
theorem fine_int {i : Int} (h : i.natAbs < 2 ^ 300) : FineN 300 0 (.int i) := by
  have h0 : i.natAbs ≠ 0 → i.natAbs.log2 < 300 := fun z => (Nat.log2_lt z).mpr h
  have h1 : i.natAbs.log2 < 300 := by
    by_cases z : i.natAbs = 0
    · rw [z]
      decide
    · exact h0 z
  refine ⟨?_, ?_, ?_, Nat.le_refl _⟩
  · show decide (i.natAbs.log2 < 1920) = true
    exact decide_eq_true (by omega)
  · show decide ((PyData.shown (.int i)).length ≤ 100) = true
    refine decide_eq_true ?_
    have z := int_text_length_le10 (a := i) (k := 99) (by decide) (Nat.lt_trans h (by decide))
    have e : (PyData.shown (.int i)).length = (toString i).length := PySem.ofString_length _
    omega
  · show (if i == 0 then 0 else i.natAbs.log2 + 1) ≤ 300
    split <;> omega
theorem fine_nat {n : Nat} (h : n < 2 ^ 300) : FineN 300 0 (.int (n : Int)) := fine_int h
theorem fineAll {w d : Nat} : ∀ {ps : List PyData}, (∀ p ∈ ps, FineN w d p) → PyData.showableAll ps = true ∧ PyData.leavesShortAll 100 ps = true ∧ PyData.weightAll ps ≤ ps.length * (w + 1) ∧ PyData.depthAll ps ≤ d
  | [], _ => ⟨rfl, rfl, Nat.zero_le _, Nat.zero_le _⟩
  | p :: ps, h => by
    obtain ⟨h1, h2, h3, h4⟩ := fineAll fun q hq => h q (List.mem_cons_of_mem _ hq)
    have z := h p List.mem_cons_self
    refine ⟨?_, ?_, ?_, ?_⟩
    · show (p.showable && PyData.showableAll ps) = true
      rw [z.s, h1]; rfl
    · show (p.leavesShort 100 && PyData.leavesShortAll 100 ps) = true
      rw [z.l, h2]; rfl
    · show p.weight + 1 + PyData.weightAll ps ≤ (ps.length + 1) * (w + 1)
      have := z.w
      rw [Nat.add_mul]
      omega
    · show max p.depth (PyData.depthAll ps) ≤ d
      have := z.d
      omega
theorem fine_lst {w d w2 d2 : Nat} {ps : List PyData} (h : ∀ p ∈ ps, FineN w d p) (hw : ps.length * (w + 1) ≤ w2) (hd : d + 1 ≤ d2) : FineN w2 d2 (.list ps) := by
  obtain ⟨h1, h2, h3, h4⟩ := fineAll h
  exact ⟨h1, h2, Nat.le_trans h3 hw, Nat.le_trans (Nat.succ_le_succ h4) hd⟩
theorem fine_tup {w d w2 d2 : Nat} {ps : List PyData} (h : ∀ p ∈ ps, FineN w d p) (hw : ps.length * (w + 1) ≤ w2) (hd : d + 1 ≤ d2) : FineN w2 d2 (.tuple ps) := by
  obtain ⟨h1, h2, h3, h4⟩ := fineAll h
  exact ⟨h1, h2, Nat.le_trans h3 hw, Nat.le_trans (Nat.succ_le_succ h4) hd⟩
/-- no element passes the test -/
theorem lcE_none {T : D → Ev → Option Ev} {mc : Ev → W Bool} {me : EM} {env : Ev} {Z : D → Prop} : ∀ (ds : List D) (P : List D → Prop), (∀ d ∈ ds, ∀ Q : Bool → Prop, Q false → match T d env with
      | none => False
      | some e1 => mc e1 Q (fun _ => False)) → P [] → lcE T mc me env ds P Z
  | [], P, _, h => h
  | d :: ds, P, hm, h => by
    unfold lcE
    have z := hm d List.mem_cons_self (fun b => if b = true then me (((T d env).getD [])) (fun y => lcE T mc me env ds (fun ys => P (y :: ys)) Z) (fun _ => False) else lcE T mc me env ds P Z)
      (lcE_none ds P (fun d' h' => hm d' (List.mem_cons_of_mem _ h')) h)
    cases q : T d env with
    | none =>
      rw [q] at z
      exact z
    | some e1 =>
      rw [q] at z
      exact z
theorem forS_ind {T : D → Ev → Option Ev} {kl : List Nat} {m : SM} {k : KS} (P : List D → Ev → Prop) (hn : ∀ e, P [] e → k.nx e)
    (hc : ∀ d ds e (F : Ev → Prop), P (d :: ds) e → (∀ e2, P ds e2 → F e2) → match T d e with
      | none => False
      | some e1 => m e1 { nx := fun e2 => F (kilE kl e2), rt := k.rt, bk := fun e2 => k.nx (kilE kl e2), ct := fun e2 => F (kilE kl e2), er := k.er }) : ∀ ds e, P ds e → forS T kl m ds e k
  | [], e, h => hn e h
  | d :: ds, e, h => by
    unfold forS
    have z := hc d ds e (fun e2 => forS T kl m ds e2 k) h fun e2 h2 => forS_ind P hn hc ds e2 h2
    cases q : T d e with
    | none =>
      rw [q] at z
      exact z.elim
    | some e1 =>
      rw [q] at z
      exact z
theorem rgD_len (lo : Int) (n : Nat) : (rgD lo n).length = n := by
  unfold rgD
  simp
theorem forS_rg {T : D → Ev → Option Ev} {kl : List Nat} {m : SM} {k : KS} {lo : Int} {n : Nat} {env : Ev} (I : Nat → Ev → Prop) (h0 : I 0 env) (hn : ∀ e, I n e → k.nx e)
    (hc : ∀ j e (F : Ev → Prop), j < n → I j e → (∀ e2, I (j + 1) e2 → F e2) → match T (.int (lo + (j : Int))) e with
      | none => False
      | some e1 => m e1 { nx := fun e2 => F (kilE kl e2), rt := k.rt, bk := fun e2 => k.nx (kilE kl e2), ct := fun e2 => F (kilE kl e2), er := k.er }) : forS T kl m (rgD lo n) env k := by
  refine forS_ind (fun ds e => ∃ j, j ≤ n ∧ ds = (rgD lo n).drop j ∧ I j e) (fun e ⟨j, h1, h2, h3⟩ => ?_) (fun d ds e F ⟨j, h1, h2, h3⟩ hF => ?_) _ env ⟨0, by omega, by simp, h0⟩
  · have z := congrArg List.length h2
    rw [List.length_drop, rgD_len] at z
    have e1 : j = n := by
      simp at z
      omega
    rw [e1] at h3
    exact hn e h3
  · have z := congrArg List.length h2
    rw [List.length_drop, rgD_len, List.length_cons] at z
    have hj : j < (rgD lo n).length := by rw [rgD_len]; omega
    rw [List.drop_eq_getElem_cons hj] at h2
    obtain ⟨e1, e2⟩ := List.cons.inj h2
    have e3 := rgD_get (lo := lo) (n := n) (i := j) (d := (rgD lo n)[j]) (List.getElem?_eq_getElem hj)
    rw [e1, e3.2]
    exact hc j e F (by omega) h3 fun e4 h4 => hF e4 ⟨j + 1, by omega, e2, h4⟩
theorem lcE_map {T : D → Ev → Option Ev} {me : EM} {env : Ev} {Z : D → Prop} (f : D → D) : ∀ (ds : List D) (P : List D → Prop), (∀ d ∈ ds, ∀ Q : D → Prop, Q (f d) → match T d env with
      | none => False
      | some e1 => me e1 Q (fun _ => False)) → P (ds.map f) → lcE T tTrue me env ds P Z
  | [], P, _, h => by
    simpa [lcE] using h
  | d :: ds, P, hm, h => by
    unfold lcE
    have z := hm d List.mem_cons_self (fun y => lcE T tTrue me env ds (fun ys => P (y :: ys)) Z) (lcE_map f ds (fun ys => P (f d :: ys)) (fun d' h' => hm d' (List.mem_cons_of_mem _ h')) (by simpa using h))
    cases q : T d env with
    | none =>
      rw [q] at z
      exact z.elim
    | some e1 =>
      rw [q] at z
      simpa using z
theorem dPow_i {i j : Int} {P Z : D → Prop} (c : CPow i j) (h : P (.int (i ^ j.toNat))) : dPow (.int i) (.int j) P Z := ⟨c, h⟩
theorem dAdd_i {i j : Int} {P Z : D → Prop} (h : P (.int (i + j))) : dAdd (.int i) (.int j) P Z := h
theorem dSub_i {i j : Int} {P Z : D → Prop} (h : P (.int (i - j))) : dSub (.int i) (.int j) P Z := h
theorem dLe_i {i j : Int} {P Z : D → Prop} (h : P (.bl (decide (i ≤ j)))) : dLe (.int i) (.int j) P Z := h
theorem dLt_i {i j : Int} {P Z : D → Prop} (h : P (.bl (decide (i < j)))) : dLt (.int i) (.int j) P Z := h
theorem dGt_i {i j : Int} {P Z : D → Prop} (h : P (.bl (decide (j < i)))) : dGt (.int i) (.int j) P Z := h
theorem dNe_ii {i j : Int} {P Z : D → Prop} (h : P (.bl (!decide (i = j)))) : dNe (.int i) (.int j) P Z := by
  have e : (i == j) = decide (i = j) := by
    by_cases h : i = j <;> simp [h]
  show ((SeqAt.shaped (.int i) = true ∧ SeqAt.shaped (.int j) = true) ∧ P (.bl (!(i == j))))
  rw [e]
  exact ⟨⟨by simp [SeqAt.shaped, PyData.canLay0, PyData.depth], by simp [SeqAt.shaped, PyData.canLay0, PyData.depth]⟩, h⟩
theorem dIx_t {l : List D} {i : Int} {d : D} {P Z : D → Prop} (e : atI l i = some d) (h : P d) : dIx (.tup l) (.int i) P Z := by
  show (match atI l i with
    | some d => P d
    | none => False)
  rw [e]
  exact h
theorem dNe_bb {i j : Bool} {P Z : D → Prop} (h : P (.bl (!(i == j)))) : dNe (.bl i) (.bl j) P Z :=
  ⟨⟨by simp [SeqAt.shaped, PyData.canLay0, PyData.depth], by simp [SeqAt.shaped, PyData.canLay0, PyData.depth]⟩, h⟩
theorem dNe_nil {P Z : D → Prop} (h : P (.bl false)) : dNe (.lst []) (.lst []) P Z := ⟨⟨by decide, by decide⟩, h⟩
theorem dEq_nil {P Z : D → Prop} (h : P (.bl true)) : dEq (.lst []) (.lst []) P Z := ⟨⟨by decide, by decide⟩, h⟩
theorem sIf_no {c : Ev → W Bool} {a b : SM} {env : Ev} {k : KS} (hc : ∀ (P : Bool → Prop) (Z : D → Prop), P false → c env P Z) (h : b env k) : sIf c a b env k := hc _ _ (by rw [if_neg (by decide)]; exact h)
theorem sSqIf_no {c : Ev → W Bool} {a r : SM} {env : Ev} {k : KS} (hc : ∀ (P : Bool → Prop) (Z : D → Prop), P false → c env P Z) (h : r env k) : sSq (sIf c a sNx) r env k := hc _ _ (by rw [if_neg (by decide)]; exact h)
theorem tOo_no {c d : Ev → W Bool} {env : Ev} (hc : ∀ (P : Bool → Prop) (Z : D → Prop), P false → c env P Z) (hd : ∀ (P : Bool → Prop) (Z : D → Prop), P false → d env P Z) : ∀ (P : Bool → Prop) (Z : D → Prop), P false → tOo c d env P Z :=
  fun P Z h => hc _ _ (by rw [if_neg (by decide)]; exact hd P Z h)
theorem tNt_no {a : EM} {env : Ev} (ha : ∀ (P : D → Prop) (Z : D → Prop), P (.bl true) → a env P Z) : ∀ (P : Bool → Prop) (Z : D → Prop), P false → tNt (tTru a) env P Z := fun P Z h => ha _ _ h
theorem tBo_no {a : EM} {env : Ev} (ha : ∀ (P : D → Prop) (Z : D → Prop), P (.bl false) → a env P Z) : ∀ (P : Bool → Prop) (Z : D → Prop), P false → tBo a env P Z := fun P Z h => ha _ _ h
theorem sSqFor_i {T : D → Ev → Option Ev} {kl : List Nat} {mi : Ev → W (List D)} {b r : SM} {env : Ev} {k : KS} (h : mi env (fun xs => forS T kl b xs env { k with nx := fun e => r e k }) k.er) : sSq (sFor T kl mi b) r env k := h
theorem sFor_i {T : D → Ev → Option Ev} {kl : List Nat} {mi : Ev → W (List D)} {b : SM} {env : Ev} {k : KS} (h : mi env (fun xs => forS T kl b xs env k) k.er) : sFor T kl mi b env k := h
theorem sIf_no2 {c : Ev → W Bool} {a : SM} {env : Ev} {k : KS} (hc : ∀ (P : Bool → Prop) (Z : D → Prop), P false → c env P Z) (h : k.nx env) : sIf c a sNx env k := hc _ _ (by rw [if_neg (by decide)]; exact h)
theorem sSqSet_i {i : Nat} {a : EM} {r : SM} {env : Ev} {k : KS} (h : a env (fun d => r (env.set i (.sh d)) k) k.er) : sSq (sSet i a) r env k := h
theorem eCa_x {sub : Str → Bool} {mb : EM} {env : Ev} {P Z : D → Prop} {cx : Str} {ns : List Str} {ds : List D} (hs : sub cx = true) (hp : P (.exc cx ns ds)) (h : ∀ Z2 : D → Prop, Z2 (.exc cx ns ds) → ∀ P2 : D → Prop, mb (env.map noOwn) P2 Z2) : eCa sub mb env P Z := h _ ⟨hs, hp⟩ _
theorem dNe_sm {x : Str} {P Z : D → Prop} (h : P (.bl false)) : dNe (.str x) (.str x) P Z := by
  have e : (!decide (x = x)) = false := by simp
  show P (.bl (!decide (x = x)))
  rw [e]
  exact h
theorem dEq_t {l : List D} {b : D} {p q : PyData} {P Z : D → Prop} (e1 : toPy (.tup l) = some p) (e2 : toPy b = some q) (s1 : SeqAt.shaped p = true) (s2 : SeqAt.shaped q = true) (e : PyData.eqv p q = true) (h : P (.bl true)) : dEq (.tup l) b P Z := by
  unfold dEq
  split
  · rename_i z1
    cases z1
  · rw [e1, e2]
    dsimp only
    rw [e]
    exact ⟨⟨s1, s2⟩, h⟩
theorem dEq_l {l : List D} {b : D} {p q : PyData} {P Z : D → Prop} (e1 : toPy (.lst l) = some p) (e2 : toPy b = some q) (s1 : SeqAt.shaped p = true) (s2 : SeqAt.shaped q = true) (e : PyData.eqv p q = true) (h : P (.bl true)) : dEq (.lst l) b P Z := by
  unfold dEq
  split
  · rename_i z1
    cases z1
  · rw [e1, e2]
    dsimp only
    rw [e]
    exact ⟨⟨s1, s2⟩, h⟩
theorem atI_mem {l : List D} {k : Int} (h0 : 0 ≤ k) (h1 : k < l.length) : ∃ d, atI l k = some d ∧ d ∈ l := by
  have hk : k.toNat < l.length := by omega
  refine ⟨l[k.toNat], ?_, List.getElem_mem hk⟩
  unfold atI ixN
  rw [if_pos h0, if_pos h1]
  exact List.getElem?_eq_getElem hk
/-- filter and map -/
theorem lcE_fm {T : D → Ev → Option Ev} {mc : Ev → W Bool} {me : EM} {env : Ev} {Z : D → Prop} (f : D → Bool) (h : D → D) : ∀ (ds : List D) (P : List D → Prop),
    (∀ d ∈ ds, ∃ e1, T d env = some e1 ∧ (∀ Q : Bool → Prop, Q (f d) → mc e1 Q (fun _ => False)) ∧ (f d = true → ∀ Q : D → Prop, Q (h d) → me e1 Q (fun _ => False))) → P ((ds.filter f).map h) → lcE T mc me env ds P Z
  | [], P, _, q => q
  | d :: ds, P, hm, q => by
    obtain ⟨e1, h1, h2, h3⟩ := hm d List.mem_cons_self
    unfold lcE
    rw [h1]
    refine h2 _ ?_
    cases e : f d with
    | true =>
      rw [if_pos rfl]
      refine h3 e _ (lcE_fm f h ds _ (fun d' h' => hm d' (List.mem_cons_of_mem _ h')) ?_)
      rw [List.filter_cons_of_pos e, List.map_cons] at q
      exact q
    | false =>
      rw [if_neg (by decide)]
      refine lcE_fm f h ds _ (fun d' h' => hm d' (List.mem_cons_of_mem _ h')) ?_
      rw [List.filter_cons_of_neg (by rw [e]; decide)] at q
      exact q
@[simp] theorem dEq_ii (i j : Int) (P Z : D → Prop) : dEq (.int i) (.int j) P Z = P (.bl (decide (i = j))) := by
  have e : (i == j) = decide (i = j) := by
    by_cases h : i = j <;> simp [h]
  show ((SeqAt.shaped (.int i) = true ∧ SeqAt.shaped (.int j) = true) ∧ P (.bl (i == j))) = _
  rw [e]
  simp [SeqAt.shaped, PyData.canLay0, PyData.depth]
end DL

set_option Elab.async false
set_option linter.all false
set_option maxRecDepth 100000
set_option maxHeartbeats 4000000
/-! EJ: rows, compared and shown. -/
namespace DL
open PySem PySem.Spec PyProof.Rows L2
def rowP (ns : List Int) : PyData := .tuple (ns.map PyData.int)
theorem toPys_ints : ∀ ns : List Int, toPys (ns.map D.int) = some (ns.map PyData.int)
  | [] => rfl
  | n :: ns => by
    rw [List.map_cons]
    unfold toPys
    rw [toPys_ints ns]
    rfl
theorem toPy_row (ns : List Int) : toPy (rowD ns) = some (rowP ns) := by
  unfold rowD toPy
  rw [toPys_ints]
  rfl
theorem toPys_rows : ∀ nss : List (List Int), toPys (nss.map rowD) = some (nss.map rowP)
  | [] => rfl
  | n :: ns => by
    rw [List.map_cons]
    unfold toPys
    rw [toPys_rows ns, toPy_row]
    rfl
theorem toPy_rowsT (nss : List (List Int)) : toPy (.tup (nss.map rowD)) = some (.tuple (nss.map rowP)) := by
  unfold toPy
  rw [toPys_rows]
  rfl
theorem toPy_rowsL (nss : List (List Int)) : toPy (.lst (nss.map rowD)) = some (.list (nss.map rowP)) := by
  unfold toPy
  rw [toPys_rows]
  rfl
theorem int_beq (i j : Int) : (i == j) = decide (i = j) := by
  by_cases h : i = j <;> simp [h]
theorem eqvAll_ints : ∀ x y : List Int, PyData.eqvAll (x.map PyData.int) (y.map PyData.int) = decide (x = y)
  | [], [] => rfl
  | [], _ :: _ => rfl
  | _ :: _, [] => rfl
  | a :: x, b :: y => by
    show (a == b && PyData.eqvAll (x.map PyData.int) (y.map PyData.int)) = _
    rw [eqvAll_ints x y, int_beq]
    by_cases h1 : a = b <;> by_cases h2 : x = y <;> simp [h1, h2]
theorem eqv_row (x y : List Int) : PyData.eqv (rowP x) (rowP y) = decide (x = y) := eqvAll_ints x y
theorem eqvAll_rows : ∀ x y : List (List Int), PyData.eqvAll (x.map rowP) (y.map rowP) = decide (x = y)
  | [], [] => rfl
  | [], _ :: _ => rfl
  | _ :: _, [] => rfl
  | a :: x, b :: y => by
    show (PyData.eqv (rowP a) (rowP b) && PyData.eqvAll (x.map rowP) (y.map rowP)) = _
    rw [eqvAll_rows x y, eqv_row]
    by_cases h1 : a = b <;> by_cases h2 : x = y <;> simp [h1, h2]
theorem layP_ints : ∀ ns : List Int, PyData.canLayAll0 (ns.map PyData.int) = true ∧ PyData.depthAll (ns.map PyData.int) = 0
  | [] => ⟨rfl, rfl⟩
  | n :: ns => by
    obtain ⟨h1, h2⟩ := layP_ints ns
    refine ⟨?_, ?_⟩
    · show (true && PyData.canLayAll0 (ns.map PyData.int)) = true
      rw [h1]
      rfl
    · show max 0 (PyData.depthAll (ns.map PyData.int)) = 0
      rw [h2]
      rfl
theorem layP_row (ns : List Int) : (rowP ns).canLay0 = true ∧ (rowP ns).depth = 1 := by
  obtain ⟨h1, h2⟩ := layP_ints ns
  refine ⟨h1, ?_⟩
  show PyData.depthAll (ns.map PyData.int) + 1 = 1
  rw [h2]
theorem layP_rows : ∀ nss : List (List Int), PyData.canLayAll0 (nss.map rowP) = true ∧ PyData.depthAll (nss.map rowP) ≤ 1
  | [] => ⟨rfl, by decide⟩
  | n :: ns => by
    obtain ⟨h1, h2⟩ := layP_rows ns
    obtain ⟨h3, h4⟩ := layP_row n
    refine ⟨?_, ?_⟩
    · show ((rowP n).canLay0 && PyData.canLayAll0 (ns.map rowP)) = true
      rw [h1, h3]
      rfl
    · show max (rowP n).depth (PyData.depthAll (ns.map rowP)) ≤ 1
      rw [h4]
      omega
theorem shaped_row (ns : List Int) : SeqAt.shaped (rowP ns) = true := by
  obtain ⟨h1, h2⟩ := layP_row ns
  unfold SeqAt.shaped
  rw [h1, h2]
  rfl
theorem shaped_rowsT (nss : List (List Int)) : SeqAt.shaped (.tuple (nss.map rowP)) = true := by
  obtain ⟨h1, h2⟩ := layP_rows nss
  show (PyData.canLayAll0 (nss.map rowP) && decide (PyData.depthAll (nss.map rowP) + 1 ≤ 64)) = true
  rw [h1, decide_eq_true (by omega)]
  rfl
theorem shaped_rowsL (nss : List (List Int)) : SeqAt.shaped (.list (nss.map rowP)) = true := shaped_rowsT nss
theorem dNe_row {x y : List Int} {P Z : D → Prop} (h : P (.bl (!decide (x = y)))) : dNe (rowD x) (rowD y) P Z := by
  have e1 := toPy_row x
  have e2 := toPy_row y
  unfold rowD at e1 e2 ⊢
  show (match toPy (.tup (x.map D.int)), toPy (.tup (y.map D.int)) with
    | some p, some q => (SeqAt.shaped p = true ∧ SeqAt.shaped q = true) ∧ P (.bl (!PyData.eqv p q))
    | _, _ => False)
  rw [e1, e2]
  refine ⟨⟨shaped_row x, shaped_row y⟩, ?_⟩
  rw [eqv_row]
  exact h
theorem dEq_rows {x y : List (List Int)} {P Z : D → Prop} (h : P (.bl (decide (x = y)))) : dEq (.tup (x.map rowD)) (.tup (y.map rowD)) P Z := by
  show (match toPy (.tup (x.map rowD)), toPy (.tup (y.map rowD)) with
    | some p, some q => (SeqAt.shaped p = true ∧ SeqAt.shaped q = true) ∧ P (.bl (PyData.eqv p q))
    | _, _ => False)
  rw [toPy_rowsT, toPy_rowsT]
  refine ⟨⟨shaped_rowsT x, shaped_rowsT y⟩, ?_⟩
  have e : PyData.eqv (.tuple (x.map rowP)) (.tuple (y.map rowP)) = decide (x = y) := eqvAll_rows x y
  rw [e]
  exact h
theorem dNe_rows {x y : List (List Int)} {P Z : D → Prop} (h : P (.bl (!decide (x = y)))) : dNe (.tup (x.map rowD)) (.tup (y.map rowD)) P Z := by
  show (match toPy (.tup (x.map rowD)), toPy (.tup (y.map rowD)) with
    | some p, some q => (SeqAt.shaped p = true ∧ SeqAt.shaped q = true) ∧ P (.bl (!PyData.eqv p q))
    | _, _ => False)
  rw [toPy_rowsT, toPy_rowsT]
  refine ⟨⟨shaped_rowsT x, shaped_rowsT y⟩, ?_⟩
  have e : PyData.eqv (.tuple (x.map rowP)) (.tuple (y.map rowP)) = decide (x = y) := eqvAll_rows x y
  rw [e]
  exact h
theorem dNi_row {x : List Int} {nss : List (List Int)} {P Z : D → Prop} (h : P (.bl (!decide (x ∈ nss)))) : dNi (rowD x) (.lst (nss.map rowD)) P Z := by
  show (match toPy (rowD x), (D.lst (nss.map rowD)) with
    | some p, .lst l => match toPys l with
      | some ps => (SeqAt.shaped p = true ∧ SeqAt.shaped (.list ps) = true) ∧ P (.bl (!ps.any fun z => PyData.eqv z p))
      | none => False
    | _, _ => False)
  rw [toPy_row]
  dsimp only
  rw [toPys_rows]
  refine ⟨⟨shaped_row x, shaped_rowsL nss⟩, ?_⟩
  have e : ((nss.map rowP).any fun z => PyData.eqv z (rowP x)) = decide (x ∈ nss) := by
    rw [List.any_map, Bool.eq_iff_iff, List.any_eq_true, decide_eq_true_iff]
    refine ⟨fun ⟨y, h1, h2⟩ => ?_, fun h1 => ⟨x, h1, ?_⟩⟩
    · have h2' : PyData.eqv (rowP y) (rowP x) = true := h2
      rw [eqv_row] at h2'
      rw [← of_decide_eq_true h2']
      exact h1
    · show PyData.eqv (rowP x) (rowP x) = true
      rw [eqv_row]
      exact decide_eq_true rfl
  rw [e]
  exact h
/-- maps over things told as f's of something -/
theorem lcE_mapL {α : Type} {T : D → Ev → Option Ev} {me : EM} {env : Ev} {Z : D → Prop} (φ : α → D) (h : α → D) : ∀ (l : List α) (P : List D → Prop), (∀ a ∈ l, ∃ e1, T (φ a) env = some e1 ∧ ∀ Q : D → Prop, Q (h a) → me e1 Q (fun _ => False)) → P (l.map h) → lcE T tTrue me env (l.map φ) P Z
  | [], P, _, q => q
  | a :: l, P, hm, q => by
    obtain ⟨e1, h1, h2⟩ := hm a List.mem_cons_self
    rw [List.map_cons]
    unfold lcE
    rw [h1]
    have z := h2 (fun y => lcE T tTrue me env (l.map φ) (fun ys => P (y :: ys)) Z) (lcE_mapL φ h l _ (fun b hb => hm b (List.mem_cons_of_mem _ hb)) q)
    simp only [tTrue, if_true]
    exact z
theorem lcE_fmL {α : Type} {T : D → Ev → Option Ev} {mc : Ev → W Bool} {me : EM} {env : Ev} {Z : D → Prop} (φ : α → D) (f : α → Bool) (h : α → D) : ∀ (l : List α) (P : List D → Prop),
    (∀ a ∈ l, ∃ e1, T (φ a) env = some e1 ∧ (∀ Q : Bool → Prop, Q (f a) → mc e1 Q (fun _ => False)) ∧ (f a = true → ∀ Q : D → Prop, Q (h a) → me e1 Q (fun _ => False))) → P ((l.filter f).map h) → lcE T mc me env (l.map φ) P Z
  | [], P, _, q => q
  | a :: l, P, hm, q => by
    obtain ⟨e1, h1, h2, h3⟩ := hm a List.mem_cons_self
    rw [List.map_cons]
    unfold lcE
    rw [h1]
    refine h2 _ ?_
    cases e : f a with
    | true =>
      rw [if_pos rfl]
      refine h3 e _ (lcE_fmL φ f h l _ (fun b hb => hm b (List.mem_cons_of_mem _ hb)) ?_)
      rw [List.filter_cons_of_pos e, List.map_cons] at q
      exact q
    | false =>
      rw [if_neg (by decide)]
      refine lcE_fmL φ f h l _ (fun b hb => hm b (List.mem_cons_of_mem _ hb)) ?_
      rw [List.filter_cons_of_neg (by rw [e]; decide)] at q
      exact q
theorem zipD_rows : ∀ x y : List Int, List.zipWith (fun a b => D.tup [a, b]) (x.map D.int) (y.map D.int) = (List.zip x y).map fun p => D.tup [.int p.1, .int p.2]
  | [], _ => rfl
  | _ :: _, [] => rfl
  | a :: x, b :: y => by
    rw [List.map_cons, List.map_cons, List.zipWith_cons_cons, zipD_rows x y]
    rfl
end DL

set_option Elab.async false
set_option linter.all false
set_option maxRecDepth 100000
set_option maxHeartbeats 4000000
/-! EK: x += e; sum of a tuple; dict(d) and {k: v} with rows as keys: the rules below. -/
namespace DL
open PySem PySem.Spec PyProof.Rows L2
/-! ### x += e -/
def tAugN (i : Nat) (te : TE) (rd : V → V → Hp → VK → Prop) : TS := fun De σ H => ∃ v, σ[i]? = some (some v) ∧ te σ H fun y H1 => rd v y H1 fun z H2 => De.nx (σ.set i (some z)) H2
theorem ps_augN {X : Cx} {i : Nat} {x : Str} {op : Operator} {e : Expr} {te : TE} {rd : V → V → Hp → VK → Prop} {p pos : Pos} (hN : X.N.Nodup) (hi : X.N[i]? = some x) (hx : Loc X.env.scope x) (he : PE X e te) (hop : InOp X op rd)
    (hf : X.fn x = true ∨ X.env.scope.names.lookup x = some .local := by first | exact .inl rfl | exact .inr rfl) (hcd : (x == ("__classdict__" : Str)) = false := by decide) : PS X (.AugAssign (.Name x p) op e pos) (tAugN i te rd) := by
  refine ⟨fun pins s σ H D I h => ?_⟩
  obtain ⟨v, e0, h⟩ := h
  obtain ⟨m, hn, hl⟩ := I.loc
  obtain ⟨u, r, l⟩ := hl i x v hi e0 (by rcases hx with z | z; exact .inl z; exact .inr (.inl z))
  refine wpAny_AugAssign_Name ?_
  have fin := thn (he.run pins s σ H _ I h) fun w s1 ⟨y, H1, I1, ry, q⟩ => thn (hop pins s1 σ H1 v y u w _ I1 r ry q) fun z' s2 ⟨z, H2, I2, rz, q2⟩ => store_ok (M := model X.prog X.w) (A := X.A) (E := X.xe) (Q := fun _ s' => SP X pins D .next s') I2 hN hi hx rz (fun s3 I3 => ⟨_, H2, I3, q2⟩) hf
  rcases l with ⟨hk, hm⟩ | ⟨hk, c, hc, hcell⟩
  · exact wpAny_loadName_local I.ok.kind hk hn hm fin
  · rcases hk with hk | hk
    · exact wpAny_loadName_cell I.ok.kind hk hc hcell fin
    · exact wpAny_loadName_free I.ok.kind hk hc hcell fin hcd
/-! ### sum of a tuple -/
section
variable {prog : Program} {w : World} {A : Around} {E : Value → Shared → Prop} {s : Shared}
theorem sum_tupI {l : Addr} {its : List Value} {ns : List Int} {Q : Value → Shared → Prop} (hh : A.handled = none) (hl : s.heap.IsTuple l its.toArray) (hi : IntsAre its ns)
    (h : ∀ (h' : Heap) (tk : Nat) (t' : Tok), (∀ b o, s.heap.get? b = some o → h'.get? b = some o) → Q (.int ns.sum t') { s with heap := h', toks := tk }) : wpAny (model prog w) A (call (.builtin "sum") [.ref l]) Q E s := by
  obtain ⟨xs, e⟩ := hi.allInts.items
  have hn : numsOf (intItems xs).toList = ns := by rw [← e]; exact hi.numsOf
  rw [nums_intItems] at hn
  rw [e] at hl
  have hlt : l < s.heap.objs.size := by
    obtain ⟨_, q, _⟩ := id hl
    exact Heap.lt_size q
  refine call_sum_walkG (wpAny_pyIter_tuple hl ⟨_, [s.heap.objs.size, l], [s.heap.objs.size], _, _, _, numAt xs, rfl, Walks.tuple (A := A.in1) hh _ l (Nat.ne_of_lt hlt) (intItems xs), ⟨⟨_, Heap.get?_push_size _ rfl, rfl, rfl⟩, hl.push _⟩, fun b hb => ?_, (fun _ _ => intItems_at), fun h' tk t' hk => ?_⟩)
  · show b < (s.heap.push _).objs.size
    rw [Heap.size_push]
    rcases List.mem_cons.mp hb with rfl | hb
    · exact Nat.lt_succ_self _
    · rw [List.mem_singleton.mp hb]
      exact Nat.lt_succ_of_lt hlt
  · have z := h h' tk t' (fun b o q => hk b o (fun hm => by
      rw [List.mem_singleton.mp hm] at q
      exact absurd (Heap.lt_size q) (Nat.lt_irrefl _)) (Heap.get?_push_of_some _ q))
    have e2 : preSum (numAt xs) (intItems xs).size = ns.sum := by
      rw [preSum_eq, List.take_of_length_le (by simp [intItems]), hn]
    rw [e2]
    exact z
end
def rSumT (K : PySem.W.Frag) : List V → Hp → VK → Prop := fun vs H Q => ∃ (a : Addr) (ns : List Int), vs = [V.ref a] ∧ SqT K H a (ns.map V.int) ∧ Q (.int ns.sum) H
theorem cr_sumT {X : Cx} (hc : X.calm = true) : CallR X (.builtin "sum") (rSumT X.K) := by
  intro pins s σ H vs us Q I r h
  obtain ⟨a, ns, rfl, hs, q⟩ := h
  obtain ⟨its, rv, hl, _⟩ := I.tuple hs
  rw [Vals.ref1 r]
  exact sum_tupI (I.ok.hd hc) (show s.heap.IsTuple a its.toArray from hl) (vals_ints ns its rv) fun h' tk t' hk => ⟨.int _, H, I.kept hk, ⟨_, rfl⟩, q⟩
def bSumT : List D → W D := fun as P _ => match as with
  | [d] => match itOf d with
    | some ns => P (.int ns.sum)
    | none => False
  | _ => False
theorem bsumt_ok {X : Cx} {g : Gd} : OpA X g bSumT (rSumT X.K) := fun as xs B S H P Z Q f r h k => by
  unfold bSumT at h
  split at h
  · split at h
    · rename_i ns e
      obtain ⟨x, rfl, rx⟩ := rep1 r
      rw [itOf_eq e] at rx
      obtain ⟨p, rfl, hp⟩ := rep_row f.le rx
      exact ⟨p, ns, rfl, .inl (.inl hp), k _ _ S H h (New.rf f.le) (ri _ S)⟩
    · exact h.elim
  · exact h.elim
theorem db_sumT {T : List (Addr × Str)} {n : Nat} {X : Cx} {g : Gd} {B : Hp × Hp} {E : XK} {a : Expr} {es : List Expr} {ml : Ev → W (List D)} {p pos : Pos} (c : CxK T n X g E) (hm : X.mg "sum" = none) (hg : Gl X "sum") (ha : DAr X g B E (a :: es) ml) (hst : noStar (a :: es) = true := by rfl) : DE X g B E (.Call (.Name "sum" p) (a :: es) [] pos) (eA bSumT ml) :=
  de_b (cr_sumT c.calm) bsumt_ok hg hm boot8 ha (hst := hst)
/-! ### dict(d) -/
section
variable {prog : Program} {w : World} {K : Type} [DecidableEq K] {knd : HeapKind prog w K} {A : Around} {E : Value → Shared → Prop} {s : Shared}
theorem call_dictH {o : Addr} {more : List (K × Addr × Value)} {Q : Value → Shared → Prop} (hu : knd.room A.in1.in1) (hoS : (o == sysModules) = false) (ho : s.heap.DictOfH knd o more) (hty : ∀ x ∈ more, s.TypeIs (.ref x.2.1) "tuple") (hap : (more.map fun x => knd.hash x.1).Nodup) (hsz : more.length ≤ sizeLine)
    (hst : ∀ x ∈ more, knd.is (s.heap.push { cls := .type "dict", data := .dict #[] }) x.1 x.2.1)
    (h : ∀ h', h'.DictOfH knd s.heap.objs.size more → Heap.SameBut s.heap.objs.size (s.heap.push { cls := .type "dict", data := .dict #[] }) h' → Q (.ref s.heap.objs.size) { s with heap := h' }) :
    wpAny (model prog w) A (call (.type "dict") [.ref o]) Q E s := by
  refine callType_codes (Q₁ := fun obj s₁ => obj = .ref s.heap.objs.size ∧ s₁ = { s with heap := s.heap.push { cls := .type "dict", data := .dict #[] } }) F.kt_called_dict (F.kt_typeCall_dict_1 _) F.entry_dict_init (kt_code_dict_new _ ⟨rfl, rfl⟩) ?_
  rintro obj s₁ ⟨rfl, rfl⟩
  have hnew : (s.heap.push { cls := .type "dict", data := .dict #[] }).DictOfH knd s.heap.objs.size [] := Heap.DictOfH.new s.heap
  have ho' : (s.heap.push { cls := .type "dict", data := .dict #[] }).DictOfH knd o more := by
    obtain ⟨ob, es, ep, h1, h2, h3, h4, h5, h6⟩ := ho
    exact ⟨ob, es, ep, Heap.get?_push_of_some _ h1, h2, h3, h4, hst, h6⟩
  have hn : (more.map (·.1)).Nodup := let ⟨_, _, _, _, _, _, _, _, hn⟩ := ho; hn
  have hdo : s.heap.objs.size ≠ o := by
    obtain ⟨_, _, _, hg, _⟩ := ho
    exact fun e => absurd (Heap.lt_size hg) (by rw [e]; exact Nat.lt_irrefl _)
  refine ⟨hnew.typeIs, F.args_dict_init_2 _ _, ?_⟩
  unfold Builtin.«dict.__init__»
  refine wpAny_bind ?_
  unfold Builtin.Dict.selfAndRest
  refine wpAny_bind (wpAny_notOrdered_dict hnew.typeIs ?_)
  show wpAny _ _ (pure (s.heap.objs.size, [Value.ref o])) _ _ _
  refine wpAny_pure ?_
  show wpAny _ _ (Builtin.Dict.updateFrom "dict.__init__" s.heap.objs.size (.ref o) [] .none) _ _ _
  have hty' : ∀ x ∈ more, Shared.TypeIs { s with heap := s.heap.push { cls := .type "dict", data := .dict #[] } } (.ref x.2.1) "tuple" := fun x hx => by
    obtain ⟨ob, h1, h2⟩ := hty x hx
    exact ⟨ob, Heap.get?_push_of_some _ h1, h2⟩
  refine updateFrom_dictH .none hu hdo hoS hnew ho' (.inr ⟨hty', hap⟩) (by rw [List.length_nil, Nat.zero_add]; exact hsz) fun h' hd' _ hs' => ⟨rfl, h h' ?_ hs'⟩
  rw [storedAllH_nil_of_nodup more hn] at hd'
  exact hd'
end
def rowHash (ns : List Int) : Int := reduceHash (Builtin.Tuple.tupleHashOf (ns.map hashInt))
theorem rowHash_eq (P : Program) (w : World) (ns : List Int) : (tupleKind (mixKind P w)).hash (ns.map Sum.inl) = rowHash ns := by
  show reduceHash (Builtin.Tuple.tupleHashOf ((ns.map Sum.inl).map (keyH w))) = _
  rw [List.map_map]
  rfl
theorem kt_keys {H : Hp} : ∀ {kvs : List (List L2.Key × V)} {xs : List (List L2.Key × Addr × Value)}, KT H kvs xs → xs.map (·.1) = kvs.map (·.1)
  | _, _, .nil => rfl
  | _, _, .cons h t => by rw [List.map_cons, List.map_cons, kt_keys t, h.1]
theorem kt_tup {H : Hp} : ∀ {kvs : List (List L2.Key × V)} {xs : List (List L2.Key × Addr × Value)}, KT H kvs xs → ∀ x ∈ xs, H x.2.1 = some (.tup (x.1.map kV))
  | _, _, .nil => fun x hx => by cases hx
  | _, _, .cons (a := p) (b := q) h t => fun x hx => by
    rcases List.mem_cons.mp hx with rfl | hx
    · rw [← h.1]
      exact h.2.1
    · exact kt_tup t x hx
def rCpT : List V → Hp → VK → Prop := fun xs H Q => ∃ (a : Addr) (kvs : List (List L2.Key × V)) (nss : List (List Int)), xs = [.ref a] ∧ Rd H a (.dT kvs) ∧ kvs.map (·.1) = nss.map (fun ns => ns.map Sum.inl) ∧ (nss.map rowHash).Nodup ∧ ∀ p, H p = none → Q (.ref p) (upd H p (.dT kvs))
theorem cr_cpT {X : Cx} (hu : X.A.units + 64 < cLine) : CallR X (.type "dict") rCpT := by
  intro pins s σ H xs us Q I r q
  obtain ⟨a, kvs, nss, rfl, hq, hk, hn, q⟩ := q
  obtain ⟨u, rfl, rx⟩ := vals1 r
  cases rx
  obtain ⟨z, hd, ys, rel, dd⟩ := dt_rd I.hok hq
  have hl : kvs.length = ys.length := Paired.length rel
  have push : ∀ b o, s.heap.get? b = some o → (s.heap.push { cls := .type "dict", data := .dict #[] }).get? b = some o := fun b o e => Heap.get?_push_of_some _ e
  refine call_dictH (knd := TK X.prog X.w) (s := s) (show X.A.in1.in1.units < cLine from by show X.A.units + 1 + 1 < cLine; omega) hd dd (fun x hx => ?_) ?_ (by rw [← hl]; exact z) (fun x hx => ?_) fun h' hd' hs => ?_
  · obtain ⟨its, rv, hT, _⟩ := I.tuple (X := X) (a := x.2.1) (xs := x.1.map kV) (.inl (.inl (kt_tup rel x hx)))
    obtain ⟨o, h1, h2, _⟩ := hT
    exact ⟨o, h1, h2⟩
  · have e : (ys.map fun x => (TK X.prog X.w).hash x.1) = nss.map rowHash := by
      have e1 : (ys.map fun x => (TK X.prog X.w).hash x.1) = (ys.map (·.1)).map (TK X.prog X.w).hash := by rw [List.map_map]; rfl
      rw [e1, kt_keys rel, hk, List.map_map]
      exact List.map_congr_left fun ns _ => rowHash_eq X.prog X.w ns
    rw [e]
    exact hn
  · obtain ⟨_, _, _, _, _, _, _, h5, _⟩ := dd
    exact tk_keep (h5 x hx) push
  · have hm : (s.heap.objs.size == sysModules) = false := beq_eq_false_iff_ne.mpr (Nat.ne_of_gt I.big)
    have hnn : H s.heap.objs.size = none := I.hok.fresh (Nat.le_refl _)
    obtain ⟨o, es, ep, e1, e2, e3, e4, e5, e6⟩ := hd'
    refine ⟨.ref s.heap.objs.size, upd H s.heap.objs.size (.dT kvs), I.laid (t' := s.toks) (fun b o e => ?_) (Nat.le_refl _) (show ObjOk X.prog X.w _ _ _ (.dT kvs) from ⟨z, hm, ys, rel.keeps fun b ys e => ?_, o, es, ep, e1, e2, e3, e4, e6⟩), rfl, q _ hnn⟩
    · exact (hs.2 b (Nat.ne_of_lt (Heap.lt_size e))).trans (push b o e)
    · rw [upd_ne (ne_of_none e hnn)]
      exact e
/-- x = dict(e), e a dict with rows as keys -/
def sCp (i : Nat) (ma : EM) : SM := fun env k => ma env (fun d => match d with
  | .dic ks ws => match itsOf ks with
    | some nss => (nss ≠ [] ∧ (nss.map rowHash).Nodup) ∧ k.nx (env.set i (.odc true ks ws))
    | none => False
  | _ => False) k.er
theorem dic_rows {b : Bool} {ks : List D} {us : List V} {o : HO} {nss : List (List Int)} (h : DicH b ks us o) (e : itsOf ks = some nss) (hn : nss ≠ []) : b = true ∧ us.length = nss.length ∧ nss.Nodup ∧ o = .dT ((nss.map fun ns => ns.map Sum.inl).zip us) := by
  have ek := itsOf_eq e
  rcases h with ⟨hb, keys, z1, z2, z3, z4⟩ | ⟨hb, keys, z1, z2, z3, z4⟩
  · exfalso
    rw [ek] at z1
    cases nss with
    | nil => exact hn rfl
    | cons n nss =>
      cases keys with
      | nil => cases z1
      | cons k keys =>
        obtain ⟨y, _⟩ := List.cons.inj z1
        cases k <;> cases y
  · have ek2 : keys = nss.map fun ns => ns.map Sum.inl := keys_rows (by rw [← z1]; exact ek)
    subst ek2
    refine ⟨hb, by rw [z2, List.length_map], ?_, z4⟩
    unfold List.Nodup at z3 ⊢
    rw [List.pairwise_map] at z3
    exact z3.imp fun q z => q (by rw [z])
section
variable {T : List (Addr × Str)} {n : Nat} {X : Cx} {g : Gd} {B : Hp × Hp} {E : XK} {a b : Expr} {es : List Expr} {ma mb mk mv : EM} {mc : Ev → W Bool} {ml : Ev → W (List D)} {p p2 pos pos2 : Pos}
theorem Le.rdD {S H : Hp} {a : Addr} {u : HO} (h : Le S H) (e : S a = some u) : Rd H a u := by
  rcases h a u e with z | ⟨_, ob, z⟩
  · exact .inl z
  · exact .inr ⟨ob, z⟩
theorem ds_cp {i : Nat} {x : Str} {pos' : Pos} (c : CxK T n X g E) (hN : X.N.Nodup) (hm : X.mg "dict" = none) (hg : Gl X "dict") (ha : DE X g B E a ma) (hst : isStar a = false := by rfl) (hi : X.N[i]? = some x := by rfl) (hx : Loc X.env.scope x := by first | exact Or.inl rfl | exact Or.inr rfl)
    (hs : swapsWith (.Call (.Name "dict" p2) [a] [] pos2) (some (.Name x pos')) pos.line X.env = pure false := by rfl) (hf : X.fn x = true ∨ X.env.scope.names.lookup x = some .local := by first | exact .inl rfl | exact .inr rfl) : DS X g B E (.Assign [.Name x pos'] (.Call (.Name "dict" p2) [a] [] pos2) pos) (sCp i ma) := by
  have hst2 : noStar [a] = true := by
    unfold noStar noStar
    rw [hst]
    rfl
  refine ps_imp (ps_set (i := i) hN hi hx (pe_callTy (cr_cpT c.u64) hg hm boot6 (pa_cons ha pa_nil (st_one hst)) (by decide) (by decide) (st_one hst) (st_any hst2)) hs hf) fun De σ H h => ?_
  obtain ⟨env, S, k, ok, hm, kk⟩ := h
  refine ⟨env, S, _, k.er, ok, hm, fun d v S' H' q ok' ex r => ?_, kk.er⟩
  cases d with
  | dic ks ws =>
    dsimp only at q
    split at q
    · rename_i nss e
      unfold Rep at r
      obtain ⟨a, us, o, bk, rfl, h2, h3, h4⟩ := r
      obtain ⟨rfl, l1, l2, rfl⟩ := dic_rows h3 e q.1.1
      refine ⟨a, _, nss, rfl, ok'.frm.le.rdD h2, ?_, q.1.2, fun t ht => ?_⟩
      · rw [List.map_fst_zip]
        rw [List.length_map, l1]
        exact Nat.le_refl _
      · exact kk.nx _ S' _ _ q.2 (ok'.odc i ht h3 h4) ex
    · exact q.elim
  | _ => exact q.elim
end
end DL

set_option Elab.async false
set_option linter.all false
set_option maxRecDepth 100000
set_option maxHeartbeats 4000000
/-! EL: {k: v}; d[k], d.get(k, x), rows as keys; x += e; for k in d. -/
namespace DL
open PySem PySem.Spec PyProof.Rows L2
/-! ### {k: v} -/
def tDisp1 (ta tb : TE) : TE := fun σ H Q => ∀ p, H p = none → ta σ (upd H p (.dT [])) fun x H1 => tb σ H1 fun y H2 => H2 p = some (.dT []) ∧ ∃ b k, x = .ref b ∧ H2 b = some (.tup (k.map kV)) ∧ Q (.ref p) (upd H2 p (.dT [(k, y)]))
theorem pe_disp1 {X : Cx} {a b : Expr} {ta tb : TE} {pos : Pos} (hu : X.A.units + 64 < cLine) (ha : PE X a ta) (hb : PE X b tb) : PE X (.Dict [some a] [b] pos) (tDisp1 ta tb) := by
  refine ⟨fun pins s σ H Q I q => ?_⟩
  have hn := I.hok.fresh (Nat.le_refl s.heap.objs.size)
  have I1 := I.laid (a := s.heap.objs.size) (o := .dT []) (h' := s.heap.push { cls := .type "dict", data := .dict #[] }) (t' := s.toks) (fun _ _ q => Heap.get?_push_of_some _ q) (Nat.le_refl _) (dt_empty s.heap I.big)
  have hp : PPs X pos [some a] [b] [(ta, tb)] := pps_cons ha hb pps_nil
  have run := hp.run pins _ σ _ (fun ps H2 => match ps with
    | [(x, y)] => H2 s.heap.objs.size = some (.dT []) ∧ ∃ b k, x = .ref b ∧ H2 b = some (.tup (k.map kV)) ∧ Q (.ref s.heap.objs.size) (upd H2 s.heap.objs.size (.dT [(k, y)]))
    | _ => False) I1 (q _ hn)
  have hl : (pairTrees [some a] [b] X.env pos).length = 1 := pairTrees_length [some a] [b] X.env pos rfl rfl
  rw [arm_eval_Dict, zip_pairTrees [some a] [b] X.env pos rfl rfl, dictDisplay_pairs (pairTrees [some a] [b] X.env pos) (fun z => by rw [z] at hl; cases hl) (by omega)]
  refine wpAny_bind (wpAny_standAt (wpAny_bind (wpAny_subDictH (knd := TK X.prog X.w) (Q := fun d s' => wpAny (model X.prog X.w) X.A (pure (Value.ref d)) (EP X pins σ Q) X.xe s') (show X.A.units < cLine by omega) (by omega) (thn run fun ws s2 h2 => ?_))))
  obtain ⟨ps, H2, I2, rel, h2⟩ := h2
  match ps, ws, rel, h2 with
  | [(x, y)], [(u, w)], .cons h .nil, h2 =>
    obtain ⟨e, b', k, rfl, hk, q2⟩ := h2
    have ru : u = Value.ref b' := h.1
    subst ru
    obtain ⟨z, hd, xs0, r0, dd⟩ := L2.dt_of I2.hok e
    cases r0
    refine ⟨[(k, b', w)], ⟨rfl, rfl, key_of I2.hok hk, trivial⟩, dd, fun h' tk hd' hs => wpAny_pure ?_⟩
    have hm : (s.heap.objs.size == sysModules) = false := hd
    obtain ⟨o, es, ep, e1, e2, e3, e4, e5, e6⟩ := hd'
    refine ⟨.ref s.heap.objs.size, _, d_write I2 (by rw [e]; exact True.intro) hs ⟨o, e1⟩ (show ObjOk X.prog X.w _ _ _ (.dT [(k, y)]) from ⟨by rw [sizeLine_eq]; show 1 ≤ 16777216; omega, hm, [(k, b', w)], .cons ⟨rfl, ?_, h.2⟩ .nil, o, es, ep, e1, e2, e3, e4, e6⟩), rfl, q2⟩
    have nb : b' ≠ s.heap.objs.size := fun z => by
      rw [z, e] at hk
      cases hk
    rw [upd_ne nb]
    exact hk
section
variable {g : Gd} {S H S2 H2 : Hp} {p : Addr} {u : HO}
/-- what stands at p is forgotten -/
def gone (H : Hp) (p : Addr) : Hp := fun a => if a = p then none else H a
theorem Frm.unhid (hR : p ∉ g.R) (hn : H p = none) (hS : S p = none) (hu : Mut u) (f : Frm g S (upd H p u) S2 H2) : Frm g S H S2 (gone H2 p) ∧ H2 p = some u ∧ S2 p = none := by
  have hp : H2 p = some u := f.fr p u upd_same hR hu.nt.2
  have hs : S2 p = none := by
    cases q : S2 p with
    | none => rfl
    | some o =>
      rcases f.nw p o q with z | z | ⟨z, vs, w⟩
      · rw [hS] at z
        cases z
      · obtain ⟨ps, z2⟩ := z u upd_same
        exact absurd z2 (hu.nt.2 ps)
      · rw [upd_same] at z
        rw [Option.some.inj z] at hu
        exact absurd w (hu.nt.1 vs)
  have ne : ∀ {a o}, S2 a = some o → a ≠ p := fun {a o} z q => by
    rw [q, hs] at z
    cases z
  have gn : ∀ {a}, a ≠ p → gone H2 p a = H2 a := fun {a} z => if_neg z
  refine ⟨⟨f.ss, fun a o h => ?_, fun a o h1 h2 h3 => ?_, fun a h => ?_, fun a o h => ?_, ?_, f.rs, fun q hq => ?_, f.nt, f.kn⟩, hp, hs⟩
  · rw [gn (ne h)]
    exact f.le a o h
  · have q : a ≠ p := fun q => by
      rw [q, hn] at h1
      cases h1
    rw [gn q]
    exact f.fr a o (by rw [upd_ne q]; exact h1) h2 h3
  · by_cases q : a = p
    · rw [q]
      exact Nn.of hn
    · rw [gn q] at h
      have z := f.al a h
      intro o ho
      exact z o (by rw [upd_ne q]; exact ho)
  · have q := ne h
    rcases f.nw a o h with z | z | z
    · exact .inl z
    · exact .inr (.inl fun w hw => z w (by rw [upd_ne q]; exact hw))
    · rw [upd_ne q] at z
      exact .inr (.inr z)
  · exact g.dwk _ _ (fun b hb => gn fun q => hR (by rw [← q]; exact hb)) f.dw
  · obtain ⟨ps, h1, h2, h3⟩ := f.tb q hq
    refine ⟨ps, by rw [gn (fun z => by rw [z, hp] at h1; exact hu.nt.2 ps (Option.some.inj h1))]; exact h1, h2, fun pos cv hc => ?_⟩
    obtain ⟨c, e1, e2⟩ := h3 pos cv hc
    refine ⟨c, e1, ?_⟩
    rw [gn (fun z => ?_)]
    · exact e2
    · rw [z, hp] at e2
      have z := Option.some.inj e2
      unfold LamX.CodeO at z
      exact hu.nx _ z
theorem upd_gone : upd (gone H2 p) p u = upd H2 p u := by
  funext a
  by_cases q : a = p
  · rw [q, upd_same, upd_same]
  · rw [upd_ne q, upd_ne q]
    exact if_neg q
end
/-- {a: b} with a row as the key -/
def eDisp1 (ma mb : EM) : EM := fun env P Z => ma (env.map noOwn) (fun kd => mb (env.map noOwn) (fun v => (itOf kd).isSome = true ∧ P (.dic [kd] [v])) (fun _ => False)) (fun _ => False)
/-- what a dict holds at a row -/
def lookR (nss : List (List Int)) (ws : List D) (ns : List Int) : Option D := ((nss.zip ws).find? fun q => decide (q.1 = ns)).map (·.2)
/-- d[k] -/
def eDg (ma mk : EM) : EM := fun env P Z => ma env (fun d => mk env (fun kd => match d with
  | .dic ks ws => match itsOf ks, itOf kd with
    | some nss, some ns => match lookR nss ws ns with
      | some v => P v
      | none => False
    | _, _ => False
  | _ => False) Z) Z
/-- d.get(k, x), d a dict that slot i alone holds -/
def eDgO (i : Nat) (mk mz : EM) : EM := fun env P Z => match env[i]? with
  | some (.odc true ks ws) => mk env (fun kd => mz env (fun z => match itsOf ks, itOf kd with
    | some nss, some ns => P ((lookR nss ws ns).getD z)
    | _, _ => False) Z) Z
  | _ => False
/-- x += e -/
def sAug (i : Nat) (ma : EM) : SM := fun env k => match env[i]? with
  | some (.sh (.int x)) => ma env (fun d => match d with
    | .int y => k.nx (env.set i (.sh (.int (x + y))))
    | _ => False) k.er
  | _ => False
section
variable {T : List (Addr × Str)} {n : Nat} {X : Cx} {g : Gd} {B : Hp × Hp} {E : XK} {a b : Expr} {es : List Expr} {ma mb mk mv mz : EM} {mc : Ev → W Bool} {ml : Ev → W (List D)} {p p2 pos pos2 : Pos}
theorem de_disp1 (c : CxK T n X g E) (ha : ∀ B', DE X g B' EF a ma) (hb : ∀ B', DE X g B' EF b mb) : DE X g B E (.Dict [some a] [b] pos) (eDisp1 ma mb) := by
  have hA : PE X a (fun σ H Q => ∃ B', clo X g B' EF ma σ H Q) := pe_any (t := fun B1 => clo X g B1 EF ma) ha
  have hB : PE X b (fun σ H Q => ∃ B', clo X g B' EF mb σ H Q) := pe_any (t := fun B1 => clo X g B1 EF mb) hb
  refine pe_imp (pe_disp1 c.u64 hA hB) fun σ H Q h => ?_
  obtain ⟨env, S, P, Z, ok, hm, k, kx⟩ := h
  intro q hq
  have n0 : New S H S (upd H q (.dT [])) := New.hid ok.frm.le hq
  have ok1 := (ok.new n0).noOwn
  have nR : q ∉ g.R := notR ok.frm.dw hq
  have hS : S q = none := ok.frm.le.none hq
  have hM : Mut (.dT []) := .inr (.inr ⟨_, rfl⟩)
  refine ⟨_, _, S, _, _, ok1, hm, fun kd x S1 H1 p1 ok2 ex1 r1 => ⟨_, _, S1, _, _, ok2, p1, fun v y S2 H2 p2 ok3 ex2 r2 => ?_, fun x cls dx S' H' z => z.elim⟩, fun x cls dx S' H' z => z.elim⟩
  obtain ⟨f2, hq2, hS2⟩ := Frm.unhid nR hq hS hM ok3.frm
  cases e : itOf kd with
  | none =>
    rw [e] at p2
    cases p2.1
  | some ns =>
    have er : kd = rowD ns := itOf_eq e
    subst er
    have r1' := r1.mono ex2
    obtain ⟨bb, rfl, hb⟩ := rep_row ok3.frm.le r1'
    have hbq : bb ≠ q := fun z => by
      rw [z, hq2] at hb
      cases hb
    refine ⟨hq2, bb, ns.map Sum.inl, rfl, ?_, ?_⟩
    · rw [hb]
      exact congrArg (fun l => some (HO.tup l)) (kv_inl ns).symm
    · have hg : gone H2 q q = none := if_pos rfl
      have n4 := New.add (S := S2) (H := gone H2 q) (p := q) (o := .dT [(ns.map Sum.inl, y)]) f2.le hg (fun ps z => by cases z)
      rw [upd_gone] at n4
      refine k (.dic [rowD ns] [v]) _ (upd S2 q (.dT [(ns.map Sum.inl, y)])) _ p2.2 ((ok.call f2).new n4) (f2.ss.tr n4.ss) ?_
      unfold Rep
      refine ⟨q, [y], _, true, rfl, upd_same, .inr ⟨rfl, [ns.map Sum.inl], ?_, rfl, by simp, rfl⟩, Reps.cons (r2.mono n4.ss) Reps.nil⟩
      show [rowD ns] = [tD (ns.map Sum.inl)]
      unfold tD rowD
      rw [List.map_map]
      rfl
theorem look_val {S : Hp} {ns : List Int} : ∀ {nss : List (List Int)} {ws : List D} {us : List V}, Reps X.K X.mg g S ws us → us.length = nss.length →
    (∀ d, lookR nss ws ns = some d → ∃ v, valV ((nss.map fun m => m.map (Sum.inl (β := Str))).zip us) (ns.map Sum.inl) = some v ∧ Rep X.K X.mg g S d v) ∧ (lookR nss ws ns = none → valV ((nss.map fun m => m.map (Sum.inl (β := Str))).zip us) (ns.map Sum.inl) = none)
  | [], ws, us, r, hl => ⟨fun d z => (by cases z), fun _ => rfl⟩
  | m :: nss, [], us, r, hl => by
    unfold Reps at r
    rw [r] at hl
    cases hl
  | m :: nss, d :: ws, us, r, hl => by
    unfold Reps at r
    obtain ⟨u, us, rfl, r1, r2⟩ := r
    have ih := look_val (ns := ns) (nss := nss) r2 (by simpa using hl)
    rw [List.map_cons, List.zip_cons_cons]
    by_cases e : m = ns
    · have e1 : lookR (m :: nss) (d :: ws) ns = some d := by
        unfold lookR
        rw [List.zip_cons_cons, List.find?_cons, decide_eq_true e]
        rfl
      rw [e1, valV_pos (by rw [e])]
      exact ⟨fun d' z => (by cases z; exact ⟨u, rfl, r1⟩), fun z => (by cases z)⟩
    · have e1 : lookR (m :: nss) (d :: ws) ns = lookR nss ws ns := by
        unfold lookR
        rw [List.zip_cons_cons, List.find?_cons, decide_eq_false e]
      rw [e1, valV_neg (fun z => e (inl_inj z))]
      exact ih
theorem de_dg (c : CxK T n X g E) (ha : DE X g B E a ma) (hb : DE X g B E b mk) (hs : NoSl b := by intro _ _; rfl) : DE X g B E (.Subscript a b pos) (eDg ma mk) := by
  refine pe_imp (pe_dget (by have := c.u64; omega) ha hb hs) fun σ H Q h => ?_
  obtain ⟨env, S, P, Z, ok, hm, k, kx⟩ := h
  refine ⟨env, S, _, Z, ok, hm, fun d x S1 H1 q ok1 ex1 r1 => ⟨env, S1, _, Z, ok1, q, fun kd y S2 H2 q2 ok2 ex2 r2 => ?_, kx⟩, kx⟩
  cases d with
  | dic ks ws =>
    dsimp only at q2
    split at q2
    · rename_i nss ns e1 e2
      split at q2
      · rename_i v e3
        have rd := r1.mono ex2
        unfold Rep at rd
        obtain ⟨qq, us, o, bk, rfl, h2, h3, h4⟩ := rd
        have hne : nss ≠ [] := fun z => by
          rw [z] at e3
          cases e3
        obtain ⟨rfl, l1, l2, rfl⟩ := dic_rows h3 e1 hne
        have er : kd = rowD ns := itOf_eq e2
        subst er
        obtain ⟨bb, rfl, hb⟩ := rep_row ok2.frm.le r2
        obtain ⟨w, z1, z2⟩ := (look_val (ns := ns) h4 l1).1 v e3
        refine ⟨qq, w, rfl, .inr ⟨_, ns.map Sum.inl, bb, ok2.frm.le.rdD h2, rfl, ?_, z1.symm⟩, k v w S2 H2 q2 ok2 (ex1.tr ex2) z2⟩
        rw [hb]
        exact congrArg (fun l => some (HO.tup l)) (kv_inl ns).symm
      · exact q2.elim
    · exact q2.elim
  | _ => exact q2.elim
theorem de_dgo {i : Nat} {x : Str} {apos cpos p1 : Pos} (c : CxK T n X g E) (ha : DE X g B E a mk) (hb : DE X g B E b mz) (hN : X.N[i]? = some x := by rfl) (hv : Vis X.env.scope x := by first | exact Or.inl rfl | exact Or.inr (Or.inl rfl) | exact Or.inr (Or.inr rfl))
    (hd : (x == ("__debug__" : Str)) = false := by decide) (hcd : (x == ("__classdict__" : Str)) = false := by decide)
    (m : M2 X (.Name x p1) "get" apos a b cpos := by exact ⟨rfl, rfl, rfl, rfl⟩) : DE X g B E (.Call (.Attribute (.Name x p1) "get" apos) [a, b] [] cpos) (eDgO i mk mz) := by
  refine pe_imp (pe_dget2 (by have := c.u64; omega) (pe_var (i := i) hN hv hd hcd) ha hb m) fun σ H Q h => ?_
  obtain ⟨env, S, P, Z, ok, hm, k, kx⟩ := h
  unfold eDgO at hm
  split at hm
  · rename_i ks ws e
    obtain ⟨q, u, us, h1, h2, h3, h4, h5, h6, h7⟩ := ok.slots i _ e
    have isd : ∀ {H : Hp} {us : List V} {u : HO}, H q = some u → DicH true ks us u → IsD H q := fun {H us u} z y => by
      rcases y with ⟨w, _⟩ | ⟨_, _, _, _, _, w⟩
      · cases w
      · rw [w] at z
        exact .inr ⟨_, .inl z⟩
    refine ⟨.ref q, h1, q, rfl, isd h5 h6, env, S, _, Z, ok, hm, fun kd y S1 H1 p1 ok1 ex1 r1 => ⟨env, S1, _, Z, ok1, p1, fun d w S2 H2 p2 ok2 ex2 r2 => ?_, kx⟩, kx⟩
    obtain ⟨q', u', us', y1, y2, y3, y4, y5, y6, y7⟩ := ok2.slots i _ e
    rw [h1] at y1
    have eq' : q = q' := by simpa using y1
    subst eq'
    split at p2
    · rename_i nss ns e1 e2
      have er : kd = rowD ns := itOf_eq e2
      subst er
      obtain ⟨bb, rfl, hb⟩ := rep_row ok2.frm.le (r1.mono ex2)
      have hb2 : H2 bb = some (.tup ((ns.map Sum.inl).map kV)) := by
        rw [hb]
        exact congrArg (fun l => some (HO.tup l)) (kv_inl ns).symm
      rcases y6 with ⟨w, _⟩ | ⟨_, keys, z1, z2, z3, z4⟩
      · cases w
      have ek : keys = nss.map fun ns => ns.map Sum.inl := keys_rows (by rw [← z1]; exact itsOf_eq e1)
      subst ek
      subst z4
      have lv := look_val (ns := ns) (nss := nss) y7 (by rw [z2, List.length_map])
      refine ⟨_, DGet.t y5 hb2, ?_⟩
      cases e3 : lookR nss ws ns with
      | none =>
        rw [lv.2 e3]
        rw [e3] at p2
        exact k d w S2 H2 p2 ok2 (ex1.tr ex2) r2
      | some d' =>
        obtain ⟨v, z5, z6⟩ := lv.1 d' e3
        rw [z5]
        rw [e3] at p2
        exact k d' v S2 H2 p2 ok2 (ex1.tr ex2) z6
    · exact p2.elim
  · exact hm.elim
theorem ds_aug {i : Nat} {x : Str} {p1 : Pos} (hN : X.N.Nodup) (ha : DE X g B E a ma) (hi : X.N[i]? = some x := by rfl) (hx : Loc X.env.scope x := by first | exact Or.inl rfl | exact Or.inr rfl)
    (hf : X.fn x = true ∨ X.env.scope.names.lookup x = some .local := by first | exact .inl rfl | exact .inr rfl) (hcd : (x == ("__classdict__" : Str)) = false := by decide) : DS X g B E (.AugAssign (.Name x p1) .Add a pos) (sAug i ma) :=
  ps_imp (ps_augN (i := i) hN hi hx ha in_add hf hcd) fun De σ H h => by
    obtain ⟨env, S, k, ok, hm, kk⟩ := h
    unfold sAug at hm
    split at hm
    · rename_i z e
      obtain ⟨v, h1, h2⟩ := ok.slots i _ e
      unfold Rep at h2
      subst h2
      refine ⟨_, h1, env, S, _, k.er, ok, hm, fun d v S1 H1 q ok1 ex1 r1 => ?_, kk.er⟩
      cases d with
      | int y =>
        unfold Rep at r1
        subst r1
        exact ⟨z, y, rfl, rfl, kk.nx _ S1 _ H1 q (ok1.set i (d := .int (z + y)) (v := .int (z + y)) (ri _ S1)) ex1⟩
      | _ => exact q.elim
    · exact hm.elim
end
end DL

set_option Elab.async false
set_option linter.all false
set_option maxRecDepth 100000
set_option maxHeartbeats 4000000
/-! EN: for k in d, d a name that holds a dict. -/
namespace DL
open PySem PySem.Spec PyProof.Rows L2
section
variable {K : PySem.W.Frag} {mg : Str → Option Value} {g : Gd} {B : Hp × Hp} {S H S' H' : Hp} {q : Addr} {o x : HO} {od : Obj} {env env' : Ev} {σ σ' : L2.St}
/-- the frame beneath a loop over the dict at q -/
def lkB (B : Hp × Hp) (q : Addr) (o : HO) (od : Obj) : Hp × Hp := (upd B.1 q o, upd B.2 q (.frz od o))
theorem Ok.lock (ok : Ok K mg g B env S σ H) (hS : S q = some o) (hx : H q = some x) (hxo : x = o ∨ x = .frz od o) (hm : Mut o) (hd : isDic o = true) : Ok K mg g (lkB B q o od) env S σ (upd H q (.frz od o)) := by
  have f := ok.frm
  have nR : q ∉ g.R := fun z => by
    have := f.rs q z
    rw [hS] at this
    cases this
  have xt : (∀ ps, x ≠ .tbl ps) ∧ (∀ φ, x ≠ .ext φ) := by
    rcases hxo with rfl | rfl
    · exact ⟨hm.nt.2, hm.nx⟩
    · exact ⟨fun _ z => (by cases z), fun _ z => (by cases z)⟩
  refine ⟨⟨fun a u h => ?_, fun a u h => ?_, fun a u h1 h2 h3 => ?_, fun a h => ?_, fun a u h => ?_, ?_, f.rs, tabs_upd f.tb hx xt.1 xt.2, f.nt, f.kn⟩, ok.len, fun i s e => ?_, ok.apart⟩
  · by_cases e : a = q
    · subst e
      have h' : upd B.1 a o a = some u := h
      rw [upd_same] at h'
      rw [hS]
      exact h'
    · have h' : upd B.1 q o a = some u := h
      rw [upd_ne e] at h'
      exact f.ss a u h'
  · by_cases e : a = q
    · subst e
      rw [hS] at h
      cases h
      exact .inr ⟨hd, od, upd_same⟩
    · rw [upd_ne e]
      exact f.le a u h
  · have h' : upd B.2 q (.frz od o) a = some u := h1
    by_cases e : a = q
    · subst e
      rw [upd_same] at h' ⊢
      exact h'
    · rw [upd_ne e] at h' ⊢
      exact f.fr a u h' h2 h3
  · by_cases e : a = q
    · rw [e, upd_same] at h
      cases h
    · rw [upd_ne e] at h
      have z := f.al a h
      intro u hu
      have hu' : upd B.2 q (.frz od o) a = some u := hu
      rw [upd_ne e] at hu'
      exact z u hu'
  · by_cases e : a = q
    · subst e
      rw [hS] at h
      exact .inl (show upd B.1 a o a = some u by rw [upd_same]; exact h)
    · rcases f.nw a u h with z | z | z
      · exact .inl (show upd B.1 q o a = some u by rw [upd_ne e]; exact z)
      · refine .inr (.inl fun w hw => ?_)
        have hw' : upd B.2 q (.frz od o) a = some w := hw
        rw [upd_ne e] at hw'
        exact z w hw'
      · exact .inr (.inr ⟨show upd B.2 q (.frz od o) a = some u by rw [upd_ne e]; exact z.1, z.2⟩)
  · exact g.dwk _ _ (fun b hb => upd_ne fun z => nR (by rw [← z]; exact hb)) f.dw
  · have z := ok.slots i s e
    have back : ∀ {a : Addr}, S a = none → Nn B.2 a → a ≠ q ∧ Nn (lkB B q o od).2 a := fun {a} h1 h2 => by
      have ne : a ≠ q := fun w => by
        rw [w, hS] at h1
        cases h1
      refine ⟨ne, fun u hu => ?_⟩
      have hu' : upd B.2 q (.frz od o) a = some u := hu
      rw [upd_ne ne] at hu'
      exact h2 u hu'
    cases s with
    | un => trivial
    | sh d => exact z
    | own l =>
      obtain ⟨a, vs, y1, y2, y3, y4, y5, y6⟩ := z
      obtain ⟨ne, nn⟩ := back y2 y3
      exact ⟨a, vs, y1, y2, nn, y4, by rw [upd_ne ne]; exact y5, y6⟩
    | odc bk ks ws =>
      obtain ⟨a, v, us, y1, y2, y3, y4, y5, y6, y7⟩ := z
      obtain ⟨ne, nn⟩ := back y2 y3
      exact ⟨a, v, us, y1, y2, nn, y4, by rw [upd_ne ne]; exact y5, y6, y7⟩
theorem Ok.unlock (ok : Ok K mg g B env S σ H) (hS : S q = some o) (hx : H q = some x) (hxo : x = o ∨ x = .frz od o) (hm : Mut o) (hd : isDic o = true) (ex : Ex S S') (ok' : Ok K mg g (lkB B q o od) env' S' σ' H') : H' q = some (.frz od o) ∧ Ok K mg g B env' S' σ' (upd H' q x) := by
  have f0 := ok.frm
  have f := ok'.frm
  have nR : q ∉ g.R := fun z => by
    have := f0.rs q z
    rw [hS] at this
    cases this
  have hp : H' q = some (.frz od o) := f.fr q _ upd_same nR fun ps z => by cases z
  have hS' : S' q = some o := ex _ _ hS
  have b2 : ∀ {a u}, a ≠ q → (lkB B q o od).2 a = some u → B.2 a = some u := fun {a u} ne h => by
    have h' : upd B.2 q (.frz od o) a = some u := h
    rw [upd_ne ne] at h'
    exact h'
  have b2' : ∀ {a u}, a ≠ q → B.2 a = some u → (lkB B q o od).2 a = some u := fun {a u} ne h => by
    show upd B.2 q (.frz od o) a = some u
    rw [upd_ne ne]
    exact h
  refine ⟨hp, ⟨f0.ss.tr ex, fun a u h => ?_, fun a u h1 h2 h3 => ?_, fun a h => ?_, fun a u h => ?_, ?_, f.rs, tabs_upd f.tb hp (fun ps z => by cases z) (fun φ z => by cases z), f.nt, f.kn⟩, ok'.len, fun i s e => ?_, ok'.apart⟩
  · by_cases e : a = q
    · subst e
      rw [hS'] at h
      cases h
      rcases hxo with rfl | rfl
      · exact .inl upd_same
      · exact .inr ⟨hd, od, upd_same⟩
    · rw [upd_ne e]
      exact f.le a u h
  · by_cases e : a = q
    · subst e
      have z := f0.fr a u h1 h2 h3
      rw [hx] at z
      rw [upd_same]
      exact z
    · rw [upd_ne e]
      exact f.fr a u (b2' e h1) h2 h3
  · by_cases e : a = q
    · rw [e, upd_same] at h
      cases h
    · rw [upd_ne e] at h
      have z := f.al a h
      intro u hu
      exact z u (b2' e hu)
  · by_cases e : a = q
    · subst e
      rw [hS'] at h
      cases h
      exact f0.nw a o hS
    · rcases f.nw a u h with z | z | z
      · have z' : upd B.1 q o a = some u := z
        rw [upd_ne e] at z'
        exact .inl z'
      · exact .inr (.inl fun w hw => z w (b2' e hw))
      · exact .inr (.inr ⟨b2 e z.1, z.2⟩)
  · exact g.dwk _ _ (fun b hb => upd_ne fun z => nR (by rw [← z]; exact hb)) f.dw
  · have z := ok'.slots i s e
    have back : ∀ {a : Addr}, Nn (lkB B q o od).2 a → a ≠ q ∧ Nn B.2 a := fun {a} h2 => by
      have ne : a ≠ q := fun w => by
        obtain ⟨ps, y⟩ := h2 (.frz od o) (by rw [w]; exact upd_same)
        cases y
      exact ⟨ne, fun u hu => h2 u (b2' ne hu)⟩
    cases s with
    | un => trivial
    | sh d => exact z
    | own l =>
      obtain ⟨a, vs, y1, y2, y3, y4, y5, y6⟩ := z
      obtain ⟨ne, nn⟩ := back y3
      exact ⟨a, vs, y1, y2, nn, y4, by rw [upd_ne ne]; exact y5, y6⟩
    | odc bk ks ws =>
      obtain ⟨a, v, us, y1, y2, y3, y4, y5, y6, y7⟩ := z
      obtain ⟨ne, nn⟩ := back y3
      exact ⟨a, v, us, y1, y2, nn, y4, by rw [upd_ne ne]; exact y5, y6, y7⟩
end
/-- for t in d: body, d a name that holds a dict; the body neither returns nor fails -/
def sForD (T : D → Ev → Option Ev) (kl : List Nat) (j : Nat) (b : SM) : SM := fun env k => match env[j]? with
  | some (.sh (.dic ks _)) => forS T kl b ks env { nx := k.nx, rt := fun _ => False }
  | _ => False
section
variable {X : Cx} {g : Gd} {B : Hp × Hp} {E : XK} {tg : Expr} {body : List Stmt} {gT : TG} {T : D → Ev → Option Ev} {vT kl : List Nat} {m : SM} {x : Str} {j : Nat} {pos p1 : Pos}
theorem keysK {S : Hp} {q : Addr} {ob : Obj} {keys : List L2.Key} {us : List V} {i : Nat} {H2 : Hp} (hl : us.length = keys.length) (l2 : Le S H2) (hq : H2 q = some (.frz ob (.dK (keys.zip us)))) : (∀ d, (keys.map kD)[i]? = some d → (Itk q ob (keys.zip us)).go i H2 ∧ ∀ x H3, (Itk q ob (keys.zip us)).yld i H2 x H3 → ∃ S3, New S H2 S3 H3 ∧ Rep X.K X.mg g S3 d x) ∧ ((keys.map kD)[i]? = none → (Itk q ob (keys.zip us)).stop i H2) := by
  refine ⟨fun d hd => ?_, fun hn => ?_⟩
  · rw [List.getElem?_map] at hd
    cases e : keys[i]? with
    | none =>
      rw [e] at hd
      cases hd
    | some k =>
      rw [e] at hd
      cases hd
      have hi := (List.getElem?_eq_some_iff.mp e).1
      refine ⟨⟨hq, by rw [List.length_zip, hl]; omega⟩, fun w H3 y => ?_⟩
      obtain ⟨rfl, k', v, z1, rfl⟩ := y
      rw [List.getElem?_zip_eq_some] at z1
      rw [e] at z1
      have ek : k = k' := Option.some.inj z1.1
      subst ek
      refine ⟨S, New.rf l2, ?_⟩
      cases k with
      | inl i => exact ri i S
      | inr x => exact rs x S
  · have := List.getElem?_eq_none_iff.mp hn
    rw [List.length_map] at this
    exact ⟨hq, by rw [List.length_zip, hl]; omega⟩
theorem keysT {S : Hp} {q : Addr} {ob : Obj} {keys : List (List L2.Key)} {us : List V} {i : Nat} {H2 : Hp} (hl : us.length = keys.length) (l2 : Le S H2) (hq : H2 q = some (.frz ob (.dT (keys.zip us)))) : (∀ d, (keys.map tD)[i]? = some d → (Itkt q ob (keys.zip us)).go i H2 ∧ ∀ x H3, (Itkt q ob (keys.zip us)).yld i H2 x H3 → ∃ S3, New S H2 S3 H3 ∧ Rep X.K X.mg g S3 d x) ∧ ((keys.map tD)[i]? = none → (Itkt q ob (keys.zip us)).stop i H2) := by
  refine ⟨fun d hd => ?_, fun hn => ?_⟩
  · rw [List.getElem?_map] at hd
    cases e : keys[i]? with
    | none =>
      rw [e] at hd
      cases hd
    | some k =>
      rw [e] at hd
      cases hd
      have hi := (List.getElem?_eq_some_iff.mp e).1
      refine ⟨⟨hq, by rw [List.length_zip, hl]; omega⟩, fun w H3 y => ?_⟩
      obtain ⟨rfl, k', v, a, z1, rfl, z2⟩ := y
      rw [List.getElem?_zip_eq_some] at z1
      rw [e] at z1
      have ek : k = k' := Option.some.inj z1.1
      subst ek
      have n1 := New.adopt l2 z2
      refine ⟨_, n1, ?_⟩
      unfold tD Rep
      exact ⟨a, _, rfl, upd_same, reps_keyV k⟩
  · have := List.getElem?_eq_none_iff.mp hn
    rw [List.length_map] at this
    exact ⟨hq, by rw [List.length_zip, hl]; omega⟩
theorem forD_turns (tk : TgOk X g gT T vT) {J : It} {ds : List D} {k : KS} {De : Ends} {env : Ev} {S1 : Hp} {σ : L2.St} {L : Hp} (ok1 : Ok X.K X.mg g B env S1 σ L) (p1 : forS T kl m ds env { nx := k.nx, rt := fun _ => False })
    (it : ∀ (i : Nat) (env' : Ev) (S2 : Hp) (σ2 : L2.St) (H2 : Hp), Ok X.K X.mg g B env' S2 σ2 H2 → Ex S1 S2 → (∀ d, ds[i]? = some d → J.go i H2 ∧ ∀ x H3, J.yld i H2 x H3 → ∃ S3, New S2 H2 S3 H3 ∧ Rep X.K X.mg g S3 d x) ∧ (ds[i]? = none → J.stop i H2))
    (fin : ∀ env' S' σ' H', k.nx env' → Ok X.K X.mg g B env' S' σ' H' → Ex S1 S' → De.nx σ' H') :
    ∃ W : Nat → Nat → L2.St → Hp → Prop, (∃ m, W 0 m σ L) ∧ ∀ i m' σ' H', W i m' σ' H' →
      (J.stop i H' ∧ De.nx σ' H') ∨ (J.go i H' ∧ ∃ N : L2.St → Hp → Prop, (∀ σ2 H2, N σ2 H2 → ∃ m2, m2 < m' ∧ W (i + 1) m2 σ2 H2) ∧ ∀ x H3, J.yld i H' x H3 → gT x σ' H3 fun σ2 H2 => (∃ B', cloS X g B' EF m { De with nx := N, ct := N, bk := De.nx } σ2 H2)) := by
  refine ⟨fun i m' σ' H' => m' = ds.length - i ∧ i ≤ ds.length ∧ ∃ env' S', Ex S1 S' ∧ Ok X.K X.mg g B env' S' σ' H' ∧ forS T kl m (ds.drop i) env' { nx := k.nx, rt := fun _ => False }, ⟨ds.length, by simp, Nat.zero_le _, env, S1, Ex.rf _, ok1, by simpa using p1⟩, ?_⟩
  rintro i m' σ' H' ⟨rfl, hi, env', S', ex', ok', q⟩
  obtain ⟨it1, it2⟩ := it i env' S' σ' H' ok' ex'
  by_cases hlt : i < ds.length
  · right
    have e0 : ds[i]? = some ds[i] := List.getElem?_eq_getElem hlt
    obtain ⟨go, yl⟩ := it1 _ e0
    rw [List.drop_eq_getElem_cons hlt] at q
    unfold forS at q
    refine ⟨go, fun σ2 H2 => ∃ env' S', Ex S1 S' ∧ Ok X.K X.mg g B env' S' σ2 H2 ∧ forS T kl m (ds.drop (i + 1)) env' { nx := k.nx, rt := fun _ => False }, fun σ2 H2 z => ⟨ds.length - (i + 1), by omega, rfl, by omega, z⟩, fun x H3 y => ?_⟩
    obtain ⟨S3, n3, r3⟩ := yl x H3 y
    have ok3 := ok'.new n3
    cases et : T ds[i] env' with
    | none =>
      rw [et] at q
      exact q.elim
    | some env1 =>
      rw [et] at q
      refine tk.run B _ x σ' H3 env' env1 S3 _ ok3 r3 et fun σ2 ok4 _ _ => ?_
      have e3 := ex'.tr n3.ss
      refine ⟨B, env1, S3, _, ok4, q, fun e2 S2 σ3 H4 q2 ok5 ex5 => ⟨_, S2, e3.tr ex5, ok5.kil kl, q2⟩, fun d v S2 H4 z => z.elim, fun e2 S2 σ3 H4 q2 ok5 ex5 => ?_, fun e2 S2 σ3 H4 q2 ok5 ex5 => ⟨_, S2, e3.tr ex5, ok5.kil kl, q2⟩, fun x cls dx S2 H4 z => z.elim⟩
      exact fin _ S2 σ3 H4 q2 (ok5.kil kl) (e3.tr ex5)
  · left
    have e : i = ds.length := by omega
    subst e
    rw [List.drop_length] at q
    exact ⟨it2 (by simp), fin env' S' σ' H' q ok' ex'⟩
theorem ds_forD (hp : PassesOwn (model X.prog X.w) X.A X.env X.xe) (hc : X.calm = true) (hg : PG X tg gT) (tk : TgOk X g gT T vT) (hb : ∀ B', DSs X g B' EF body m)
    (hj : X.N[j]? = some x := by rfl) (hv : Vis X.env.scope x := by first | exact Or.inl rfl | exact Or.inr (Or.inl rfl) | exact Or.inr (Or.inr rfl)) (hd : (x == ("__debug__" : Str)) = false := by decide)
    (hcd : (x == ("__classdict__" : Str)) = false := by decide) (hs : ∀ y, foldedSetIterable (.Name x p1) X.env y = pure y := by intro _; rfl) : DS X g B E (.For tg (.Name x p1) body [] pos) (sForD T kl j m) := by
  have hbody : PSs X body (fun De σ H => ∃ B', cloS X g B' EF m De σ H) := ⟨fun pins s σ H D I ⟨B', q⟩ => (hb B').run pins s σ H D I q⟩
  have base := ps_for hp hc (pi_keys (pe_var hj hv hd hcd)) hg hbody hs (pos := pos)
  have both : PS X (.For tg (.Name x p1) body [] pos) (fun De σ H => ∃ b : Bool, if b = true then tLock (tFor (iKeys (tVar j)) gT (fun De σ H => ∃ B', cloS X g B' EF m De σ H)) De σ H
      else tFor (iKeys (tVar j)) gT (fun De σ H => ∃ B', cloS X g B' EF m De σ H) De σ H) :=
    ⟨fun pins s σ H De I ⟨b, q⟩ => by
      cases b with
      | true => exact (ps_lock base).run pins s σ H De I q
      | false => exact base.run pins s σ H De I q⟩
  refine ps_imp both fun De σ H h => ?_
  obtain ⟨env, S, k, ok, hm, kk⟩ := h
  unfold sForD at hm
  split at hm
  · rename_i ks ws e
    obtain ⟨v, hσ, rv⟩ := ok.slots j _ e
    unfold Rep at rv
    obtain ⟨q, us, o, bk, rfl, h2, h3, h4⟩ := rv
    have hmut : Mut o := .dic h3
    have hdic : isDic o = true := by
      rcases dicH_cases h3 with ⟨_, rfl⟩ | ⟨_, rfl⟩ <;> rfl
    have nR : q ∉ g.R := fun z => by
      have := ok.frm.rs q z
      rw [h2] at this
      cases this
    have loop : ∀ (od : Obj) (De' : Ends), Ok X.K X.mg g (lkB B q o od) env S σ (upd H q (.frz od o)) → (∀ env' S' σ' H', k.nx env' → Ok X.K X.mg g (lkB B q o od) env' S' σ' H' → Ex S S' → De'.nx σ' H') →
        tFor (iKeys (tVar j)) gT (fun De σ H => ∃ B', cloS X g B' EF m De σ H) De' σ (upd H q (.frz od o)) := by
      intro od De' okL fin
      refine ⟨.ref q, hσ, q, od, rfl, ?_⟩
      have hq : ∀ {env' S' σ' H'}, Ok X.K X.mg g (lkB B q o od) env' S' σ' H' → H' q = some (.frz od o) := fun {env' S' σ' H'} z => z.frm.fr q _ upd_same nR fun ps z => by cases z
      rcases h3 with ⟨_, keys, z1, z2, z3, z4⟩ | ⟨_, keys, z1, z2, z3, z4⟩
      · subst z4
        refine .inl ⟨_, upd_same, ?_⟩
        subst z1
        exact forD_turns tk okL hm (fun i env' S2 σ2 H2 ok2 ex2 => keysK z2 ok2.frm.le (hq ok2)) fin
      · subst z4
        refine .inr ⟨_, upd_same, ?_⟩
        subst z1
        exact forD_turns tk okL hm (fun i env' S2 σ2 H2 ok2 ex2 => keysT z2 ok2.frm.le (hq ok2)) fin
    rcases ok.frm.le q o h2 with hH | ⟨_, ob, hH⟩
    · refine ⟨true, ?_⟩
      rw [if_pos rfl]
      refine ⟨q, o, hH, ?_, fun od => ?_⟩
      · rcases dicH_cases h3 with ⟨_, rfl⟩ | ⟨_, rfl⟩ <;> exact True.intro
      refine loop od _ (ok.lock h2 hH (.inl rfl) hmut hdic) fun env' S' σ' H' pn ok' ex' => ?_
      obtain ⟨y1, y2⟩ := ok.unlock h2 hH (.inl rfl) hmut hdic ex' ok'
      exact ⟨y1, kk.nx env' S' σ' _ pn y2 ex'⟩
    · refine ⟨false, ?_⟩
      rw [if_neg (by decide)]
      have eH : upd H q (.frz ob o) = H := by
        funext a
        by_cases ea : a = q
        · rw [ea, upd_same, hH]
        · exact upd_ne ea
      have z := loop ob De (ok.lock h2 hH (.inr rfl) hmut hdic) fun env' S' σ' H' pn ok' ex' => by
        obtain ⟨y1, y2⟩ := ok.unlock h2 hH (.inr rfl) hmut hdic ex' ok'
        have eH' : upd H' q (.frz ob o) = H' := by
          funext a
          by_cases ea : a = q
          · rw [ea, upd_same, y1]
          · exact upd_ne ea
        rw [eH'] at y2
        exact kk.nx env' S' σ' _ pn y2 ex'
      rw [eH] at z
      exact z
  · exact hm.elim
end
theorem de_with {T : List (Addr × Str)} {n : Nat} {X : Cx} {g : Gd} {B : Hp × Hp} {E : XK} {e : Expr} {m : EM} (c : CxK T n X g E) (h : CxK T n X g E → DE X g B E e m) : DE X g B E e m := h c
end DL

set_option Elab.async false
set_option linter.all false
set_option maxRecDepth 100000
set_option maxHeartbeats 4000000
/-! EP: starred items; x.extend(e); max of a list. -/
namespace DL
open PySem PySem.Spec PyProof.Rows L2 StX
/-- *a, .. -/
@[simp] def aStar (a : EM) (r : Ev → W (List D)) : Ev → W (List D) := fun env P Z => a env (fun d => match d with
  | .tup l => r env (fun ds => P (l ++ ds)) Z
  | .lst l => r env (fun ds => P (l ++ ds)) Z
  | _ => False) Z
/-- x.extend(e), x a list that this name alone holds -/
@[simp] def sExt (i : Nat) (a : EM) : SM := fun env k => match env[i]? with
  | some (.own l) => a env (fun d => match d with
    | .lst m => l.length + m.length ≤ 16777216 ∧ k.nx (env.set i (.own (l ++ m)))
    | _ => False) k.er
  | _ => False
@[simp] def bMaxLs : List D → W D := fun as P _ => match as with
  | [.lst l] => match intsOf l with
    | some ns => ns ≠ [] ∧ P (.int (maxL ns))
    | none => False
  | _ => False
section
variable {T : List (Addr × Str)} {n : Nat} {X : Cx} {g : Gd} {B : Hp × Hp} {E : XK} {a b : Expr} {es : List Expr} {ma mb mk mv mz : EM} {mc : Ev → W Bool} {ml : Ev → W (List D)} {p p2 pos pos2 : Pos}
theorem da_star (ha : DE X g B E a ma) (hr : DAr X g B E es ml) (hs : starEach (.Starred a p :: es) X.env = (true, eval a X.env) :: starEach es X.env := by rfl) : DAr X g B E (.Starred a p :: es) (aStar ma ml) := by
  refine pa_imp (pa_star ha hr hs) fun σ H Q h => ?_
  obtain ⟨env, S, P, Z, ok, hm, k, kx⟩ := h
  refine ⟨env, S, _, Z, ok, hm, fun d v S' H' p ok' ex r => ?_, kx⟩
  cases d with
  | tup l =>
    unfold Rep at r
    obtain ⟨q, vs, rfl, h1, h2⟩ := r
    exact ⟨q, vs, rfl, .inl (ok'.frm.le.sqT h1), env, S', _, Z, ok', p, fun ds ws S2 H2 p2 ok2 ex2 r2 => k _ _ S2 H2 p2 ok2 (ex.tr ex2) ((h2.mono ex2).app r2), kx⟩
  | lst l =>
    unfold Rep at r
    obtain ⟨q, vs, rfl, h1, h2⟩ := r
    exact ⟨q, vs, rfl, .inr (ok'.frm.le.sqL (SqL.of h1)), env, S', _, Z, ok', p, fun ds ws S2 H2 p2 ok2 ex2 r2 => k _ _ S2 H2 p2 ok2 (ex.tr ex2) ((h2.mono ex2).app r2), kx⟩
  | _ => exact p.elim
theorem ds_ext {i : Nat} {x : Str} {p1 apos cpos : Pos} (ha : DE X g B E a ma) (hN : X.N[i]? = some x := by rfl) (hv : Vis X.env.scope x := by first | exact Or.inl rfl | exact Or.inr (Or.inl rfl) | exact Or.inr (Or.inr rfl))
    (hd : (x == ("__debug__" : Str)) = false := by decide) (hcd : (x == ("__classdict__" : Str)) = false := by decide)
    (hp : ∀ {ta : TE} {t : TA}, PE X (.Name x p1) ta → PA X [a] t → PE X (.Call (.Attribute (.Name x p1) "extend" apos) [a] [] cpos) (tBM X.K "list" rExtend ta t)) (hst : starEach [a] X.env = (false, eval a X.env) :: starEach [] X.env := by rfl)
    (hs : swapsWith (.Call (.Attribute (.Name x p1) "extend" apos) [a] [] cpos) none pos.line X.env = pure false := by rfl) : DS X g B E (.Expr (.Call (.Attribute (.Name x p1) "extend" apos) [a] [] cpos) pos) (sExt i ma) :=
  ps_imp (ps_expr (hp (pe_var (i := i) hN hv hd hcd) (pa_cons ha pa_nil hst)) hs) fun De σ H h => by
    obtain ⟨env, S, k, ok, hm, kk⟩ := h
    unfold sExt at hm
    cases e : env[i]? with
    | none =>
      rw [e] at hm
      exact hm.elim
    | some s =>
      rw [e] at hm
      cases s with
      | un => exact hm.elim
      | sh d => exact hm.elim
      | odc bk ks ws => exact hm.elim
      | own l =>
        obtain ⟨q, vs, h1, h2, h3, h4, h5, h6⟩ := ok.slots i _ e
        refine ⟨.ref q, h1, .inl ⟨rfl, _, .inl (.inl h5)⟩, env, S, _, _, ok, hm, fun d v S' H' p ok' ex r => ?_, kk.er⟩
        obtain ⟨q', vs', y1, y2, y3, y4, y5, y6⟩ := ok'.slots i _ e
        rw [h1] at y1
        have eq' : q = q' := by simpa using y1
        subst eq'
        cases d with
        | lst m =>
          unfold Rep at r
          obtain ⟨t, ws, rfl, r1, r2⟩ := r
          have e1 : H' t = some (.lst ws) := (ok'.frm.le _ _ r1).resolve_right fun z => by cases z.1
          refine ⟨q, t, vs', ws, rfl, rfl, y5, e1, by rw [← y6.len, ← r2.len, sizeLine_eq]; exact p.1, ?_⟩
          exact kk.nx _ S' σ _ p.2 (ok'.wr e h1 (y6.app r2)) ex
        | _ => exact p.elim
theorem bmaxls_ok : OpA X g bMaxLs (rMax X.K) := fun as xs B S H P Z Q f r h k => by
  unfold bMaxLs at h
  split at h
  · rename_i l
    split at h
    · rename_i ns e
      obtain ⟨v, rfl, rv⟩ := rep1 r
      unfold Rep at rv
      obtain ⟨a, vs, rfl, h1, h2⟩ := rv
      rw [intsOf_eq e] at h2
      rw [reps_intsV h2] at h1
      refine ⟨a, ns, rfl, f.le.sqL (SqL.of h1), List.length_pos_iff.mpr h.1, fun m hm hq => ?_⟩
      obtain ⟨z1, z2⟩ := maxL_mem h.1
      have em : m = maxL ns := Int.le_antisymm (z2 m hm) (hq _ z1)
      rw [em]
      exact k _ _ S H h.2 (New.rf f.le) (ri _ S)
    · exact h.elim
  · exact h.elim
theorem db_maxLs (c : CxK T n X g E) (hm : X.mg "max" = none) (hg : Gl X "max") (ha : DAr X g B E (a :: es) ml) (hst : noStar (a :: es) = true := by rfl) : DE X g B E (.Call (.Name "max" p) (a :: es) [] pos) (eA bMaxLs ml) :=
  de_b (cr_max c.calm) bmaxls_ok hg hm boot12 ha (hst := hst)
end
end DL

set_option Elab.async false
set_option linter.all false
set_option maxRecDepth 100000
set_option maxHeartbeats 4000000
/-! EQ: enumerate(e), e a list or a tuple. -/
namespace DL
open PySem PySem.Spec PyProof.Rows L2
/-! ### the iterator of a tuple, drawn from -/
theorem drawsT {prog : Program} {w : World} {A : Around} (hh : A.handled = none) (j t : Addr) (ne : t ≠ j) (xs : Array Value) :
    Draws prog w A j [j, t] xs.size (fun i v => xs[i]? = some v) (fun i h => h.IsTupleIter j t i ∧ h.IsTuple t xs) where
  live := fun i h z => by
    obtain ⟨⟨o, q, _⟩, _⟩ := z
    exact ⟨o, q⟩
  frame := fun i h h2 z k => by
    obtain ⟨⟨o, q, r⟩, ⟨o2, q2, r2⟩⟩ := z
    exact ⟨⟨o, k j (by simp) o q, r⟩, ⟨o2, k t (by simp) o2 q2, r2⟩⟩
  item := fun i s Q E lt z k => by
    refine wpAny_nextOf_tuple_item z.1 z.2 (x := xs[i]) (by simp [lt]) fun h2 z2 sb => ?_
    refine k _ h2 s.toks (by simp [lt]) ⟨z2, ?_⟩ sb
    exact z.2.extBut sb.extBut ne
  done := fun s Q E z k => wpAny_nextOf_tuple_end hh z.1 z.2 (by simp) k
/-- what is made anew for enumerate over a tuple -/
def tupItO (t : Addr) : Obj := { cls := .type "tuple_iterator", data := .fields #[.ref t, .int 0 0] }
def enumO (j : Addr) : Obj := { cls := .type "enumerate", data := .fields #[.none, .bool false, .ref j, rawInt 0, .none, .none] }
set_option maxHeartbeats 8000000 in
theorem enum_newT (t : Addr) (xs : Array Value) (n : Nat) (dc : Option Addr) (sl : Array (Option Value)) :
    Meets (Builtin.«enumerate.__new__» ⟨[.type "enumerate", .ref t], []⟩) (fun _ R s => s.heap.get? t = some { cls := .type "tuple", dict := dc, data := .seq xs n, slots := sl } ∧
      R (.ok (.ret (.ref (s.heap.push (tupItO t)).objs.size))) { s with heap := (s.heap.push (tupItO t)).push (enumO s.heap.objs.size) }) :=
  .of_wp fun prog w A R s z => by
    obtain ⟨ht, z⟩ := z
    obtain ⟨hp, g, d, tk, os⟩ := s
    have hsub := sub_enumerate
    have hT : Heap.IsTuple (Shared.heap ⟨hp, g, d, tk, os⟩) t xs := ⟨_, ht, rfl, n, rfl⟩
    wp_walk using AutoSeq1.wpAny_loadPart' ht
    refine wpAny_stack_any fun st => ?_
    refine wpAny_pure ?_
    split
    · rename_i c _ _ _ _ _
      cases (c == Value.type "enumerate")
      · wp_walk using AutoSeq1.wpAny_loadPart' ht, wpAny_pyIter_tuple hT
        exact ⟨_, rfl, z⟩
      · wp_walk using AutoSeq1.wpAny_loadPart' ht, wpAny_pyIter_tuple hT
        exact ⟨_, rfl, z⟩
    · wp_walk using AutoSeq1.wpAny_loadPart' ht, wpAny_pyIter_tuple hT
      exact ⟨_, rfl, z⟩
theorem call_enumT {prog : Program} {w : World} {A : Around} {E : Value → Shared → Prop} {s : Shared} {t : Addr} {xs : Array Value} {Q : Value → Shared → Prop} (hT : s.heap.IsTuple t xs)
    (k : ∀ h2, IsEnum h2 (s.heap.objs.size + 1) s.heap.objs.size 0 .none → h2.IsTupleIter s.heap.objs.size t 0 → h2.objs.size = s.heap.objs.size + 2 →
      (∀ b o, s.heap.get? b = some o → h2.get? b = some o) → Q (.ref (s.heap.objs.size + 1)) { s with heap := h2 }) :
    wpAny (model prog w) A (call (.type "enumerate") [.ref t]) Q E s := by
  obtain ⟨ob, ht, hc, n, hd⟩ := hT
  obtain ⟨c, dc, dt, sl⟩ := ob
  dsimp only at hc hd
  subst hc hd
  refine callType_new F.called_enumerate (by decide) (F.typeCall_enumerate_1 _) (F.newCall_enumerate_1 _) (fun obj => F.args_object_init_2 obj _) F.entry_enumerate_new (enum_newT t xs n dc sl) ⟨ht, ?_⟩
  have hz : (s.heap.push (tupItO t)).objs.size = s.heap.objs.size + 1 := Heap.size_push ..
  have up : ∀ b o, s.heap.get? b = some o → ((s.heap.push (tupItO t)).push (enumO s.heap.objs.size)).get? b = some o := fun b o q => Heap.get?_push_of_some _ (Heap.get?_push_of_some _ q)
  have he : IsEnum ((s.heap.push (tupItO t)).push (enumO s.heap.objs.size)) (s.heap.objs.size + 1) s.heap.objs.size 0 .none := by
    have q := Heap.get?_push_size (s.heap.push (tupItO t)) (o := enumO s.heap.objs.size) rfl
    rw [hz] at q
    exact q
  show _ ∧ _
  rw [hz]
  refine ⟨⟨_, he, rfl⟩, k _ he ⟨_, Heap.get?_push_of_some _ (Heap.get?_push_size _ rfl), rfl, rfl⟩ ?_ up⟩
  rw [Heap.size_push, hz]
theorem enum_endT {prog : Program} {w : World} {A : Around} {E : Value → Shared → Prop} {s : Shared} {e j t : Addr} {i : Nat} {n : Int} {xs : Array Value} {old : Value} {Q : Option Value → Shared → Prop} (hh : A.handled = none) (he : IsEnum s.heap e j n old) (hj : s.heap.IsTupleIter j t i) (hT : s.heap.IsTuple t xs) (hx : xs[i]? = none)
    (k : ∀ h2, Heap.ExtBut j s.heap h2 → Q none { s with heap := h2 }) : wpAny (model prog w) A (pyNext (.ref e)) Q E s :=
  wpAny_pyNext_enum_endD (n := i) (fp := [j, t]) (P := fun _ _ => False) (St := fun i2 h => i2 = i ∧ h.IsTupleIter j t i ∧ h.IsTuple t xs) ⟨fun _ _ ⟨_, z, _⟩ => ⟨z.choose, z.choose_spec.1⟩, fun _ h h2 ⟨q, ⟨o, z, r⟩, ⟨o2, z2, r2⟩⟩ kk => ⟨q, ⟨o, kk j (by simp) o z, r⟩, ⟨o2, kk t (by simp) o2 z2, r2⟩⟩,
    fun i2 s2 Q2 E2 lt ⟨q, _⟩ _ => absurd lt (by omega), fun s2 Q2 E2 ⟨_, z1, z2⟩ kk => wpAny_nextOf_tuple_end (show A.in1.handled = none from hh) z1 z2 hx kk⟩ he ⟨rfl, hj, hT⟩ k
/-- the tuple at a, each item in a new pair with its place -/
def IteT (K : PySem.W.Frag) (a : Addr) : It where
  go := fun i H => ∃ (xs : List V) (x : V), SqT K H a xs ∧ xs[i]? = some x
  yld := fun i H v H2 => ∃ (t : Addr) (x : V), v = .ref t ∧ H t = none ∧ H2 = upd H t (.tup [.int (i : Nat), x]) ∧ ∀ xs, SqT K H a xs → xs[i]? = some x
  stop := fun i H => ∃ xs : List V, SqT K H a xs ∧ xs.length ≤ i
theorem turn_enumT {P : Program} {w : World} {K : PySem.W.Frag} {elts : List Expr} {kk : Nat} {tpos : Pos} (a e j : Addr) (hne : a ≠ j) :
    Turn P w K (.Tuple elts kk tpos) (IteT K a) [e, j] e (fun i h => (∃ old, IsEnum h e j ((i : Nat) : Int) old) ∧ h.IsTupleIter j a i ∧ e ≠ j ∧ e ≠ a) where
  mem := by simp
  obj := fun i h z b hb => by
    obtain ⟨⟨old, he⟩, ⟨o, q1, q2, q3⟩, _⟩ := z
    simp only [List.mem_cons, List.not_mem_nil, or_false] at hb
    rcases hb with rfl | rfl
    · exact ⟨_, he, fun v q => nomatch q⟩
    · exact ⟨o, q1, fun v q => by rw [q3] at q; cases q⟩
  keep := fun i h h2 z k => by
    obtain ⟨⟨old, he⟩, ⟨o, q1, q2⟩, n⟩ := z
    exact ⟨⟨old, k e (by simp) _ he⟩, ⟨o, k j (by simp) o q1, q2⟩, n⟩
  item := by
    intro X hP hw hK hc i pins s σ H E I hf z hg
    subst hP hw hK
    obtain ⟨⟨old, he⟩, hj, n1, n2⟩ := z
    obtain ⟨xs, x, hq, hx⟩ := hg
    obtain ⟨its, rv, p, hz⟩ := I.tuple hq
    obtain ⟨u, hu, ru⟩ := rv.get hx
    have le : e < s.heap.objs.size := Heap.lt_size he
    have lj : j < s.heap.objs.size := by
      obtain ⟨_, q, _⟩ := hj
      exact Heap.lt_size q
    have lt : i < its.toArray.size := by
      have := (List.getElem?_eq_some_iff.mp hu).1
      simpa using this
    refine wpAny_pyNext_enum_itemD (drawsT (A := X.A.in1) (show X.A.in1.handled = none from I.ok.hd hc) j a hne its.toArray) he ⟨hj, p⟩ lt n1 (by simp only [List.mem_cons, List.not_mem_nil, or_false, not_or]; exact ⟨n1, n2⟩) fun u2 h2 tk hu2 ho hj2 hT hs hk => ?_
    have eu : u2 = u := by
      have q : its[i]? = some u2 := by simpa using hu2
      rw [hu] at q
      exact (Option.some.inj q).symm
    subst eu
    refine ⟨_, rfl, wpAny_letOwnedTupleGo_enum (s := { s with heap := h2, toks := tk + 1 }) ho fun h3 he3 sb => ?_⟩
    have hT2 : h3.get? s.heap.objs.size = some { cls := .type "tuple", data := .seq #[.int i tk, u2] } := by
      rw [← hT]
      exact sb.2 _ (Nat.ne_of_gt le)
    have new : ObjOk X.prog X.w (upd H s.heap.objs.size (.tup [.int (i : Nat), x])) h3 s.heap.objs.size (.tup [.int (i : Nat), x]) :=
      ⟨by rw [sizeLine_eq]; show 2 ≤ 16777216; omega, [.int i tk, u2], .cons ⟨_, rfl⟩ (.cons ru .nil), ⟨_, hT2, rfl, _, rfl⟩⟩
    have I1 : Inv X pins σ (upd H s.heap.objs.size (.tup [.int (i : Nat), x])) { s with heap := h3, toks := tk + 1 } := by
      refine I.turnedNew (ch := [e, j]) (fun b o hb q => ?_) hf (Nat.le_refl _) new
      have b1 : b ≠ e := fun y => hb (by simp [y])
      have b2 : b ≠ j := fun y => hb (by simp [y])
      exact (sb.2 b b1).trans (hk b o b1 b2 q)
    refine ⟨.ref s.heap.objs.size, _, I1, rfl, ⟨_, x, rfl, I.hok.fresh (Nat.le_refl _), rfl, fun ys hy => by rw [I.tuple_inj hy hq]; exact hx⟩, ⟨⟨u2, ?_⟩, ?_, n1, n2⟩, fun b hb => ?_⟩
    · rw [show ((i + 1 : Nat) : Int) = (i : Int) + 1 by omega]
      exact he3
    · obtain ⟨o, q1, q2⟩ := hj2.1
      exact ⟨o, (sb.2 j (Ne.symm n1)).trans q1, q2⟩
    · have lb : b < s.heap.objs.size := by
        simp only [List.mem_cons, List.not_mem_nil, or_false] at hb
        rcases hb with rfl | rfl
        · exact le
        · exact lj
      rw [upd_ne (Nat.ne_of_lt lb)]
      exact (hf b hb).1
  done := by
    intro X hP hw hK hc i pins s σ H E I hf z hg
    subst hP hw hK
    obtain ⟨⟨old, he⟩, hj, n1, n2⟩ := z
    obtain ⟨xs, hq, hx⟩ := hg
    obtain ⟨its, rv, p, hz⟩ := I.tuple hq
    obtain ⟨f0, f1, f2, f3, f4, f5⟩ := hf j (by simp)
    have hl := rv.length
    have hT : s.heap.IsTuple a its.toArray := p
    have z2 : s.heap.IsTupleIter j a i := hj
    -- one past the end is as good as the end
    exact enum_endT (I.ok.hd hc) he hj hT (by simp; omega) fun h2 eb => ⟨rfl, I.turned (t' := s.toks) (fun b o hb q => eb b o hb q) f0 f1 f3 f4 f5⟩
  self := fun A i s Q E z k => by
    obtain ⟨⟨_, he⟩, _⟩ := z
    exact wpAny_pyIter_enum he k
/-- enumerate over a list or a tuple -/
def iEnum2 (K : PySem.W.Frag) (ta : TA) : TI := fun σ H R => ta σ H fun vs H1 => ∃ a, vs = [.ref a] ∧ ((∃ xs, SqL K H1 a xs ∧ R (Ite K a) H1) ∨ ∃ xs, SqT K H1 a xs ∧ R (IteT K a) H1)
theorem pi_enum2 {X : Cx} {e : Expr} {ta : TA} {p pos tpos : Pos} {elts : List Expr} {kk : Nat} (hg : Gl X "enumerate") (hm : X.mg "enumerate" = none) (ha : PA X [e] ta) (hs : starEach [e] X.env = [(false, eval e X.env)] := by rfl) :
    PI X (.Tuple elts kk tpos) (.Call (.Name "enumerate" p) [e] [] pos) (iEnum2 X.K ta) := by
  refine ⟨fun pins s σ H R I h => ?_⟩
  refine Call_ (ld_blt I hg hm boot_enumerate (PyProof.Rows.callWith_type1 (thn (ha.run pos pins s σ H _ I h) fun us s1 ⟨vs, H1, I1, r1, q1⟩ => ?_) hs rfl))
  obtain ⟨a, ex, hq⟩ := q1
  subst ex
  cases r1 with
  | cons r rr =>
    cases rr
    cases r
    have fpk : ∀ b ∈ [s1.heap.objs.size + 1, s1.heap.objs.size], FpOk X pins H1 b := fun b hb => by
      have e' : b = s1.heap.objs.size + 1 ∨ b = s1.heap.objs.size := by simpa using hb
      have hle : s1.heap.objs.size ≤ b := by
        rcases e' with z | z
        · rw [z]; exact Nat.le_add_right _ _
        · rw [z]; exact Nat.le_refl _
      exact I1.fpOk hle (I1.hok.fresh hle)
    rcases hq with ⟨xs, hq, q⟩ | ⟨xs, hq, q⟩
    · obtain ⟨its, rv, p', hz⟩ := I1.list hq
      refine call_enumerate_list p'.isList fun h' he hit hsz hk => wpAny_pyIter_enum he ?_
      have I2 : Inv X pins σ H1 { s1 with heap := h' } := I1.kept (t' := s1.toks) hk
      exact ⟨s1.heap.objs.size + 1, [s1.heap.objs.size + 1, s1.heap.objs.size], _, _, H1, rfl, I2, turn_enum a (s1.heap.objs.size + 1) s1.heap.objs.size, ⟨⟨.none, he⟩, hit, Nat.succ_ne_self _⟩, fpk, q⟩
    · obtain ⟨its, rv, p', hz⟩ := I1.tuple hq
      have la : a < s1.heap.objs.size := by
        obtain ⟨_, q, _⟩ := p'
        exact Heap.lt_size q
      refine call_enumT p' fun h' he hit hsz hk => wpAny_pyIter_enum he ?_
      have I2 : Inv X pins σ H1 { s1 with heap := h' } := I1.kept (t' := s1.toks) hk
      exact ⟨s1.heap.objs.size + 1, [s1.heap.objs.size + 1, s1.heap.objs.size], _, _, H1, rfl, I2, turn_enumT a (s1.heap.objs.size + 1) s1.heap.objs.size (Nat.ne_of_lt la), ⟨⟨.none, he⟩, hit, Nat.succ_ne_self _, Nat.ne_of_gt (Nat.lt_succ_of_lt la)⟩, fpk, q⟩
/-- pairs of places and items -/
def enD : Nat → List D → List D
  | _, [] => []
  | i, x :: r => .tup [.int (i : Nat), x] :: enD (i + 1) r
theorem enD_get : ∀ {l : List D} {i k : Nat} {d : D}, (enD k l)[i]? = some d → ∃ x, l[i]? = some x ∧ d = .tup [.int ((k + i : Nat) : Int), x]
  | [], i, k, d, h => by cases h
  | x :: r, 0, k, d, h => ⟨x, rfl, (Option.some.inj h).symm⟩
  | x :: r, i + 1, k, d, h => by
    obtain ⟨y, h1, h2⟩ := enD_get (l := r) (i := i) (k := k + 1) h
    refine ⟨y, h1, ?_⟩
    rw [h2, show k + 1 + i = k + (i + 1) by omega]
theorem enD_non : ∀ {l : List D} {i k : Nat}, (enD k l)[i]? = none → l.length ≤ i
  | [], i, k, h => Nat.zero_le _
  | x :: r, 0, k, h => by cases h
  | x :: r, i + 1, k, h => Nat.succ_le_succ (enD_non (l := r) (i := i) (k := k + 1) h)
theorem enD_len : ∀ {l : List D} {k : Nat}, (enD k l).length = l.length
  | [], _ => rfl
  | _ :: _, _ => congrArg Nat.succ enD_len
@[simp] def iEn (a : EM) : Ev → W (List D) := fun env P Z => a env (fun d => match d with
  | .lst l => P (enD 0 l)
  | .tup l => P (enD 0 l)
  | _ => False) Z
section
variable {X : Cx} {g : Gd} {B : Hp × Hp} {E : XK} {a : Expr} {ma : EM} {p pos : Pos}
theorem di_en {elts : List Expr} {kk : Nat} {tpos : Pos} (hg : Gl X "enumerate") (hm : X.mg "enumerate" = none) (ha : DE X g B E a ma) (hs : starEach [a] X.env = [(false, eval a X.env)] := by rfl) :
    DI X g B E (.Tuple elts kk tpos) (.Call (.Name "enumerate" p) [a] [] pos) (iEn ma) := by
  refine pi_imp (pi_enum2 hg hm (pa_cons ha pa_nil hs) hs) fun σ H R h => ?_
  obtain ⟨env, S, P, Z, ok, hm, k, kx⟩ := h
  refine ⟨env, S, _, Z, ok, hm, fun d v S' H' p ok' ex r => ?_, kx⟩
  cases d with
  | lst l =>
    unfold Rep at r
    obtain ⟨q, vs, rfl, h2, h3⟩ := r
    refine ⟨q, rfl, .inl ⟨vs, ok'.frm.le.sqL (SqL.of h2), k _ _ S' H' p ok' ex fun i S4 H4 e4 l4 => ⟨fun d hd => ?_, fun hn => ?_⟩⟩⟩
    · obtain ⟨x, hx, rfl⟩ := enD_get hd
      obtain ⟨vx, ex', rx⟩ := h3.got hx
      have s1 := l4.sqL (K := X.K) (SqL.of (e4 _ _ h2))
      refine ⟨⟨vs, vx, s1, ex'⟩, fun w H5 yy => ?_⟩
      obtain ⟨T, x1, rfl, hT, rfl, f1⟩ := yy
      have z1 := f1 _ s1
      rw [ex'] at z1
      cases z1
      have n := New.add (o := .tup [.int (i : Nat), vx]) l4 hT (fun ps z => by cases z)
      rw [Nat.zero_add]
      exact ⟨_, n, by unfold Rep; exact ⟨T, _, rfl, upd_same, Reps.cons (ri _ _) (Reps.cons ((rx.mono e4).mono n.ss) Reps.nil)⟩⟩
    · exact ⟨vs, l4.sqL (SqL.of (e4 _ _ h2)), by rw [← h3.len]; exact enD_non hn⟩
  | tup l =>
    unfold Rep at r
    obtain ⟨q, vs, rfl, h2, h3⟩ := r
    refine ⟨q, rfl, .inr ⟨vs, ok'.frm.le.sqT h2, k _ _ S' H' p ok' ex fun i S4 H4 e4 l4 => ⟨fun d hd => ?_, fun hn => ?_⟩⟩⟩
    · obtain ⟨x, hx, rfl⟩ := enD_get hd
      obtain ⟨vx, ex', rx⟩ := h3.got hx
      have s1 := l4.sqT (K := X.K) (e4 _ _ h2)
      refine ⟨⟨vs, vx, s1, ex'⟩, fun w H5 yy => ?_⟩
      obtain ⟨T, x1, rfl, hT, rfl, f1⟩ := yy
      have z1 := f1 _ s1
      rw [ex'] at z1
      cases z1
      have n := New.add (o := .tup [.int (i : Nat), vx]) l4 hT (fun ps z => by cases z)
      rw [Nat.zero_add]
      exact ⟨_, n, by unfold Rep; exact ⟨T, _, rfl, upd_same, Reps.cons (ri _ _) (Reps.cons ((rx.mono e4).mono n.ss) Reps.nil)⟩⟩
    · exact ⟨vs, l4.sqT (e4 _ _ h2), by rw [← h3.len]; exact enD_non hn⟩
  | _ => exact p.elim
end
end DL

set_option Elab.async false
set_option linter.all false
set_option maxRecDepth 100000
set_option maxHeartbeats 4000000
/-! ER: x = caught(lambda: told.append(e)), told a list that this slot alone holds. -/
namespace DL
open PySem PySem.Spec PyProof.Rows L2 LamX
/-- told.append(e) is tried: what is raised, or nothing -/
@[simp] def sCaA (j i : Nat) (sub : Str → Bool) (mb : EM) : SM := fun env k => match env[i]? with
  | some (.own l) => mb (env.map noOwn) (fun d => l.length < 16777216 ∧ k.nx ((env.set i (.own (l ++ [d]))).set j (.sh .non))) (fun y => match y with
    | .exc cx ns ds => sub cx = true ∧ k.nx (env.set j (.sh (.exc cx ns ds)))
    | _ => False)
  | _ => False
section
variable {X : Cx} {g : Gd} {B : Hp × Hp} {E : XK}
theorem pe_caughtT {T : List (Addr × Str)} {n : Nat} {st : Stmt} {x xe a nm er : Str} {gA CS cA PA : Addr} {fd : FuncData} {params : Arguments} {body : Expr} {scope : Scope} {p lpos pos : Pos} {tb : XK → TE} (c : CxK T (n + 2) X g E) (hg : Gl X x) (hm : X.mg x = some (.ref gA))
    (F : Fun X.K x x st gA fd) (hb : Binds X.K fd [a] []) (kb : KeepBody st a nm xe er) (hme : X.mg xe = some (.ref CS))
    (TB : TabB X.base X.mg cA PA) (hcode : X.env.code = .ref cA) (hmT : (PA, X.env.qual ++ "<lambda>") ∈ T) (hu : ∀ p ∈ T, p.1 = PA → p.2 = X.env.qual ++ "<lambda>") (L : LamS X.env.scope scope) (hdef : defaultsOf params X.env = ([], []))
    (hbind : ∀ (q : Str) (cl : List (Str × Addr)) (pm cv ctv : Value), bindArgs (PySem.W.kla_fn "<lambda>" q params body scope cl pm cv ctv) ⟨[], []⟩ = pure [])
    (hbody : ∀ (A : Around) (outer : List Env) (s : Shared) (H : Hp) (E' : XK) (f c' : Addr), CxK T n (lamCx X A outer s H E' scope f c') g E' → PE (lamCx X A outer s H E' scope f c') body (tb E'))
    (hdb : (x == ("__debug__" : Str)) = false := by decide) : PE X (.Call (.Name x p) [.Lambda params body scope lpos] [] pos) (fun σ H Q => Tabs T H ∧ ∀ H1, ExtN H H1 → Tabs T H1 →
      tb (fun cls d H2 => PySem.W.exmOne X.K cls (.ref CS) = some true ∧ ∀ a', H2 a' = none → Q (.ref a') (upd H2 a' (exV cls d a'))) σ H1 fun _ H2 => ∃ u : V, (some (some V.non) : Option (Option V)) = some (some u) ∧ Q u H2) := by
  obtain ⟨q1, q2, q3, p1, p2, p3, np, r1, r2, r3, p4, p5, w1, w2, j, hbd⟩ := kb.ex
  obtain ⟨d1, d2, d3, d4, d5, d6, d7⟩ := kb.nd
  obtain ⟨oc, od, kV, doc, pm, an, cdv, ct, osl, e, lk, hcg⟩ := F.ex
  subst e
  refine ⟨fun pins s σ H Q I hh => ?_⟩
  obtain ⟨hT, hq⟩ := hh
  refine wpAny_Call_Name_kw (ld_glob I hg hm ?_ hdb)
  refine PySem.W.callWith_K (h₀ := X.base) I.ok.mod.kin F.kp ?_ (by rfl) (by rfl)
  show wpAny _ _ (spliced ((false, eval (.Lambda params body scope lpos) X.env) :: _)) _ _ s
  refine Calls.spliced_cons (lam_make2 I TB hcode hmT hu hT hdef (L.has I.ok) fun f c' pm2 ctv H1 s1 I1 eN T1 hf hfn hfr hco => ?_)
  refine Calls.spliced_nil ⟨I1.kIn, ?_⟩
  have rc : codeAny (model X.prog X.w) X.A (.call (.ref gA) ⟨[.ref f], []⟩) (CR (L2.CX X.prog X.w) X.stack X.prog X.w H1 s1 Q (fun _ _ _ => False)) s1 := by
    refine run_ofS (N := [a, nm, er]) (ps := [a]) (us := [.ref f]) (vs := [.ref f]) lk hcg kb.scope c.room I1.env0 (hb s1 [.ref f] I1.kIn rfl) (.cons rfl .nil) rfl fun hr2 => ?_
    rw [hbd]
    refine ⟨_, pss_cons (ps_set (i := 1) kb.scope.nd rfl (.inl kb.ln) pe_non rfl (.inr kb.ln)) (pss_cons (ps_kept (i := 2) (c := .ref CS) (ts := fun _ => tAsg (tVar 2) (gName 1))
      (tb := fun W D σz Hz => ∃ Ech : XK, (∀ cls d σ' H', Ech cls d H' → σ'.length = 3 → W cls d σ' H') ∧ σz[0]? = some (some (.ref f)) ∧ Hz c' = some (CodeO c' (X.env.qual ++ "<lambda>")) ∧ tb Ech σ Hz fun _ H' => D.nx σz H')
      rfl rfl kb.scope.nd rfl kb.le ⟨kb.lx, d7, .inl hme⟩ rfl (fun W pn xe tk _ => ⟨fun pz sz σz Hz D Iz hz => ?_⟩) (fun a' oe pn => pss_one (ps_set (i := 1) kb.scope.nd rfl (.inl kb.ln) (pe_var (i := 2) rfl (.inl kb.le) d5 d6) rfl (.inr kb.ln))) (by simp)) (pss_one (ps_ret (pe_var (i := 1) rfl (.inl kb.ln) d3 d4)))), ?_⟩
    · obtain ⟨Ech, hW, h1, h2, h3⟩ := hz
      exact (pss_one (ps_expr (lam_act (i := 0) (E := Ech) c.gd hr2 I1 L hfn hfr hf (hbind _ _ _ _ _) (takes_len tk) (fun cls d σ' H' z hl => hW cls d σ' H' z hl) (fun A outer s2 H2 hA hR =>
        hbody A outer s2 H2 Ech f c' ⟨hR, c.tb, hA, takes_of rfl rfl rfl rfl, rfl⟩) rfl (.inl kb.la) d1 d2))).run pz sz σz Hz D Iz ⟨h1, h2, h3⟩
    · have hq1 := hq H1 eN T1
      refine ⟨fun cls d H2 => PySem.W.exmOne X.K cls (.ref CS) = some true ∧ ∀ a', H2 a' = none → Q (.ref a') (upd H2 a' (exV cls d a')), fun cls d σ2 H2 z hl => ⟨z.1, fun a' ha' => ?_⟩, rfl, hco, ?_⟩
      · refine ⟨.ref a', by rw [List.getElem?_set_self (by omega)], ?_⟩
        refine ⟨.ref a', ?_, z.2 a' ha'⟩
        rw [List.getElem?_set_ne (by decide), List.getElem?_set_self (by rw [List.length_set]; omega)]
      · show tb _ σ H1 _
        exact hq1
  refine wpAny_call (codeAny_mono rc fun res s2 hq2 => ?_)
  cases res with
  | error e =>
    obtain ⟨_, _, _, _, _, _, _, _, _, _, _, _, w⟩ := hq2
    exact w.elim
  | ok fl =>
    cases fl with
    | ret u => exact I1.after hq2
    | _ => exact False.elim hq2
theorem ds_caA {T : List (Addr × Str)} {n : Nat} {st : Stmt} {x xe a nm er : Str} {gA CS cA PB : Addr} {fd : FuncData} {params : Arguments} {scope : Scope} {p lpos pos apos cpos p1 pos' apos' : Pos} {sub : Str → Bool} {e : Expr} {mb : EM} {i j : Nat} {told y : Str} (c : CxK T (n + 2) X g E) (hg : Gl X x) (hm : X.mg x = some (.ref gA))
    (F : Fun X.K x x st gA fd) (hb : Binds X.K fd [a] []) (kb : KeepBody st a nm xe er) (hme : X.mg xe = some (.ref CS)) (hsub : ∀ cx Cx, sub cx = true → X.mg cx = some (.ref Cx) → PySem.W.exmOne X.K (.ref Cx) (.ref CS) = some true)
    (TB : TabB X.base X.mg cA PB) (hcode : X.env.code = .ref cA) (hmT : (PB, X.env.qual ++ "<lambda>") ∈ T) (hu : ∀ p ∈ T, p.1 = PB → p.2 = X.env.qual ++ "<lambda>") (L : LamS X.env.scope scope) (hdef : defaultsOf params X.env = ([], []))
    (hbind : ∀ (q : Str) (cl : List (Str × Addr)) (pm cv ctv : Value), bindArgs (PySem.W.kla_fn "<lambda>" q params (.Call (.Attribute (.Name told p1) "append" apos) [e] [] cpos) scope cl pm cv ctv) ⟨[], []⟩ = pure [])
    (hbody : ∀ (A : Around) (outer : List Env) (s : Shared) (H : Hp) (E' : XK) (f c' : Addr) (B' : Hp × Hp), CxK T n (lamCx X A outer s H E' scope f c') g E' → DE (lamCx X A outer s H E' scope f c') g B' E' e mb)
    (hp : ∀ (A : Around) (outer : List Env) (s : Shared) (H : Hp) (E' : XK) (f c' : Addr) {ta : TE} {t : TA}, PE (lamCx X A outer s H E' scope f c') (.Name told p1) ta → PA (lamCx X A outer s H E' scope f c') [e] t → PE (lamCx X A outer s H E' scope f c') (.Call (.Attribute (.Name told p1) "append" apos) [e] [] cpos) (tBM X.K "list" rAppend ta t))
    (hst : isStar e = false)
    (hN : X.N.Nodup) (hi : X.N[i]? = some told) (hv : Vis scope told) (hd : (told == ("__debug__" : Str)) = false) (hcd : (told == ("__classdict__" : Str)) = false)
    (hj : X.N[j]? = some y) (hij : i ≠ j) (hx : Loc X.env.scope y) (hs : swapsWith (.Call (.Name x p) [.Lambda params (.Call (.Attribute (.Name told p1) "append" apos) [e] [] cpos) scope lpos] [] pos) (some (.Name y pos')) apos'.line X.env = pure false) (hf : X.fn y = true ∨ X.env.scope.names.lookup y = some .local)
    (hdb : (x == ("__debug__" : Str)) = false := by decide) : DS X g B E (.Assign [.Name y pos'] (.Call (.Name x p) [.Lambda params (.Call (.Attribute (.Name told p1) "append" apos) [e] [] cpos) scope lpos] [] pos) apos') (sCaA j i sub mb) := by
  refine ps_imp (ps_set (i := j) hN hj hx (pe_caughtT (tb := fun E' σ H Q => ∃ B' : Hp × Hp, tBM X.K "list" rAppend (tVar i) (cloA X g B' E' (aCons mb aNil)) σ H Q) c hg hm F hb kb hme TB hcode hmT hu L hdef hbind (fun A outer s H E' f c' cK =>
    pe_any (t := fun B' => tBM X.K "list" rAppend (tVar i) (cloA X g B' E' (aCons mb aNil))) fun B' => hp A outer s H E' f c' (pe_var (i := i) hi hv hd hcd) ?_) hdb) hs hf) fun De σ H h => ?_
  · exact da_cons (hbody A outer s H E' f c' B' cK) da_nil hst
  · obtain ⟨env, S, k, ok, hm, kk⟩ := h
    unfold sCaA at hm
    cases e : env[i]? with
    | none =>
      rw [e] at hm
      exact hm.elim
    | some s =>
      rw [e] at hm
      cases s with
      | un => exact hm.elim
      | sh d => exact hm.elim
      | odc bk ks ws => exact hm.elim
      | own l =>
        have hT : Tabs T H := by
          rw [← c.tb]
          exact ok.frm.tb
        refine ⟨hT, fun H1 eN T1 => ?_⟩
        have ok1 : Ok X.K X.mg g B env S σ H1 := ok.lam eN (by rw [c.tb]; exact T1)
        obtain ⟨q, vs, h1, h2, h3, h4, h5, h6⟩ := ok1.slots i _ e
        refine ⟨(S, H1), .ref q, h1, .inl ⟨rfl, _, .inl (.inl h5)⟩, env.map noOwn, S, (fun ds => match ds with | [d] => l.length < 16777216 ∧ k.nx ((env.set i (.own (l ++ [d]))).set j (.sh .non)) | _ => False), _, ok1.noOwn, hm, fun ds ws S2 H2 p2 ok2 ex2 rs => ?_, fun z cls dx S2 H2 q2 f2 rx => ?_⟩
        · have ok3 := ok1.call ok2.frm
          obtain ⟨q', vs', y1, y2, y3, y4, y5, y6⟩ := ok3.slots i _ e
          rw [h1] at y1
          have eq' : q = q' := by simpa using y1
          subst eq'
          match ds, p2 with
          | [d], p2 =>
            obtain ⟨v, rfl, r⟩ := rep1 rs
            refine ⟨q, vs', v, rfl, rfl, y5, by rw [← y6.len, sizeLine_eq]; exact p2.1, .non, rfl, ?_⟩
            exact kk.nx _ S2 _ _ p2.2 ((ok3.wr e h1 (y6.app (Reps.cons r Reps.nil))).set j (by unfold Rep; rfl)) ex2
        · cases z with
          | exc cx ns ds =>
            obtain ⟨Cx, vs', x1, x2, x3, x4, x5, x6⟩ := rx
            subst x2
            refine ⟨hsub cx Cx q2.1 x1, fun a' ha' => ?_⟩
            have nw := New.add (o := exV (.ref Cx) dx a') f2.le ha' (fun ps w => by unfold exV at w; cases w)
            refine kk.nx _ _ _ _ q2.2 ((ok1.call (f2.new nw)).set j ?_) (f2.ss.tr nw.ss)
            unfold Rep
            exact ⟨a', Cx, dx, vs', rfl, x1, upd_same, x3.mono nw.ss, x4, fun d2 w => nw.ss _ _ (x5 d2 w), x6⟩
          | _ => exact q2.elim
theorem ds_cauA {T : List (Addr × Str)} {n : Nat} {st : Stmt} {cA PB : Addr} {sub : Str → Bool} {q : Str} {params : Arguments} {scope : Scope} {p lpos pos apos cpos p1 pos' apos' : Pos} {e : Expr} {mb : EM} {i j : Nat} {told y : Str} (C : Cau X.K X.mg X.base T st cA PB q sub) (c : CxK T (n + 2) X g E) (hg : Gl X "_law_caught")
    (hcode : X.env.code = .ref cA) (L : LamS X.env.scope scope) (hdef : defaultsOf params X.env = ([], []))
    (hbind : ∀ (q : Str) (cl : List (Str × Addr)) (pm cv ctv : Value), bindArgs (PySem.W.kla_fn "<lambda>" q params (.Call (.Attribute (.Name told p1) "append" apos) [e] [] cpos) scope cl pm cv ctv) ⟨[], []⟩ = pure [])
    (hbody : ∀ (A : Around) (outer : List Env) (s : Shared) (H : Hp) (E' : XK) (f c' : Addr) (B' : Hp × Hp), CxK T n (lamCx X A outer s H E' scope f c') g E' → DE (lamCx X A outer s H E' scope f c') g B' E' e mb)
    (hp : ∀ (A : Around) (outer : List Env) (s : Shared) (H : Hp) (E' : XK) (f c' : Addr) {ta : TE} {t : TA}, PE (lamCx X A outer s H E' scope f c') (.Name told p1) ta → L2.PA (lamCx X A outer s H E' scope f c') [e] t → PE (lamCx X A outer s H E' scope f c') (.Call (.Attribute (.Name told p1) "append" apos) [e] [] cpos) (tBM X.K "list" rAppend ta t))
    (hN : X.N.Nodup) (hst : isStar e = false := by rfl) (hi : X.N[i]? = some told := by rfl) (hv : Vis scope told := by first | exact Or.inl rfl | exact Or.inr (Or.inl rfl) | exact Or.inr (Or.inr rfl)) (hd : (told == ("__debug__" : Str)) = false := by decide) (hcd : (told == ("__classdict__" : Str)) = false := by decide)
    (hj : X.N[j]? = some y := by rfl) (hij : i ≠ j := by decide) (hx : Loc X.env.scope y := by first | exact Or.inl rfl | exact Or.inr rfl) (hs : swapsWith (.Call (.Name "_law_caught" p) [.Lambda params (.Call (.Attribute (.Name told p1) "append" apos) [e] [] cpos) scope lpos] [] pos) (some (.Name y pos')) apos'.line X.env = pure false := by rfl)
    (hf : X.fn y = true ∨ X.env.scope.names.lookup y = some .local := by first | exact .inl rfl | exact .inr rfl) (hq : X.env.qual ++ "<lambda>" = q := by rfl) : DS X g B E (.Assign [.Name y pos'] (.Call (.Name "_law_caught" p) [.Lambda params (.Call (.Attribute (.Name told p1) "append" apos) [e] [] cpos) scope lpos] [] pos) apos') (sCaA j i sub mb) := by
  obtain ⟨gA, CS, fd, h1, h2, h3, h4, h5⟩ := C.ex
  subst hq
  exact ds_caA c hg h1 h2 h3 C.kb h4 h5 C.tb hcode C.mem C.uq L hdef hbind hbody hp hst hN hi hv hd hcd hj hij hx hs hf
/-- x = x + e, x a list that this slot alone holds -/
@[simp] def sCat (i : Nat) (a : EM) : SM := fun env k => match env[i]? with
  | some (.own l) => a env (fun d => match d with
    | .lst m => l.length + m.length ≤ 16777216 ∧ k.nx (env.set i (.own (l ++ m)))
    | _ => False) k.er
  | _ => False
theorem ds_cat {i : Nat} {x : Str} {a : Expr} {ma : EM} {p1 pos pos' bpos : Pos} (hN : X.N.Nodup) (ha : DE X g B E a ma) (hi : X.N[i]? = some x := by rfl) (hx : Loc X.env.scope x := by first | exact Or.inl rfl | exact Or.inr rfl) (hv : Vis X.env.scope x := by first | exact Or.inl rfl | exact Or.inr (Or.inl rfl) | exact Or.inr (Or.inr rfl))
    (hd : (x == ("__debug__" : Str)) = false := by decide) (hcd : (x == ("__classdict__" : Str)) = false := by decide)
    (hs : swapsWith (.BinOp (.Name x p1) .Add a bpos) (some (.Name x pos')) pos.line X.env = pure false := by rfl) (hf : X.fn x = true ∨ X.env.scope.names.lookup x = some .local := by first | exact .inl rfl | exact .inr rfl) : DS X g B E (.Assign [.Name x pos'] (.BinOp (.Name x p1) .Add a bpos) pos) (sCat i ma) :=
  ps_imp (ps_set (i := i) hN hi hx (pe_op op_cat (pe_var (i := i) hi hv hd hcd) ha) hs hf) fun De σ H h => by
    obtain ⟨env, S, k, ok, hm, kk⟩ := h
    unfold sCat at hm
    cases e : env[i]? with
    | none =>
      rw [e] at hm
      exact hm.elim
    | some s =>
      rw [e] at hm
      cases s with
      | un => exact hm.elim
      | sh d => exact hm.elim
      | odc bk ks ws => exact hm.elim
      | own l =>
        obtain ⟨q, vs, h1, h2, h3, h4, h5, h6⟩ := ok.slots i _ e
        refine ⟨.ref q, h1, env, S, _, _, ok, hm, fun d v S' H' p ok' ex r => ?_, kk.er⟩
        obtain ⟨q', vs', y1, y2, y3, y4, y5, y6⟩ := ok'.slots i _ e
        rw [h1] at y1
        have eq' : q = q' := by simpa using y1
        subst eq'
        cases d with
        | lst m =>
          unfold Rep at r
          obtain ⟨t, ws, rfl, r1, r2⟩ := r
          have e1 : H' t = some (.lst ws) := (ok'.frm.le _ _ r1).resolve_right fun z => by cases z.1
          refine ⟨q, t, vs', ws, rfl, rfl, y5, e1, by rw [← y6.len, ← r2.len, sizeLine_eq]; exact p.1, fun p' hp' => ?_⟩
          exact kk.nx _ S' _ _ p.2 (ok'.own i hp' (y6.app r2)) ex
        | _ => exact p.elim
end
end DL

set_option Elab.async false
set_option linter.all false
set_option maxRecDepth 100000
set_option maxHeartbeats 4000000
/-! ES: a lambda handed to a def that calls it from a lambda of its own. -/
namespace DL
open PySem PySem.Spec PyProof.Rows L2 LamX
/-- what stood at X's frame's start stands, but for its own frame, as long as Y runs -/
def LinkU (X Y : Cx) : Prop := ∀ (pz : List (Addr × Obj)) (σz : L2.St) (Hz : Hp) (sz : Shared), Inv Y pz σz Hz sz → Un X.fs X.ex X.H_0 Hz X.s_0.heap sz.heap
theorem Un.shrink {fs fs' ex : List Addr} {H H1 : Hp} {h h1 : Heap} (u : Un fs' ex H H1 h h1) (hs : ∀ b ∈ fs', b ∉ fs → h.get? b = none) : Un fs ex H H1 h h1 where
  keep := fun b o e n nf nx => u.keep b o e n (fun z => by
    have := hs b z nf
    rw [e] at this
    cases this) nx
  slot := fun b o e n hf nx => u.any e n nx
  free := u.free
  there := u.there
  tups := u.tups
  frzs := u.frzs
  tbls := u.tbls
section
variable {X : Cx} {pins : List (Addr × Obj)} {σ : L2.St} {H : Hp} {s : Shared}
/-- a lambda made in X's frame is called from the frame of Y -/
theorem lam_act3 {Y : Cx} {E : XK} {f c' : Addr} {pm ctv : Value} {params : Arguments} {body : Expr} {scope : Scope} {k i : Nat} {a : Str} {W : WX} {tb : TE} {p1 p2 : Pos}
    (e1 : Y.prog = X.prog) (e2 : Y.w = X.w) (e3 : Y.K = X.K) (e4 : Y.mg = X.mg) (e5 : Y.base = X.base) (hgd : Y.A.guards = some []) (hr : Room (k + 1) Y.A) (I : Inv X pins σ H s) (L : LamS X.env.scope scope)
    (link : ∀ (pz : List (Addr × Obj)) (σz : L2.St) (Hz : Hp) (sz : Shared), Inv Y pz σz Hz sz → Un (frs X.stack) [] H Hz s.heap sz.heap) (hfn : H f = none) (hfr : f ∉ frs X.stack)
    (hf : s.heap.get? f = some (PySem.W.kla_obj "<lambda>" (X.env.qual ++ "<lambda>") params body scope (cloFrom X.env.cells scope.names []) pm c' ctv))
    (hbd : bindArgs (PySem.W.kla_fn "<lambda>" (X.env.qual ++ "<lambda>") params body scope (cloFrom X.env.cells scope.names []) pm (.ref c') ctv) ⟨[], []⟩ = pure [])
    (tk : Takes Y W) (hW : ∀ cls d σ' H', E cls d H' → W cls d σ' H')
    (hbody : ∀ (A : Around) (s2 : Shared) (Hz : Hp), A.guards = some [] → Room k (A.deeper (lamEnv X scope s2.heap.objs.size f c')) → Un (frs X.stack) [] H Hz s.heap s2.heap → PE (lamCx X A Y.stack s2 Hz E scope f c') body tb)
    (hN : Y.N[i]? = some a) (hv : Vis Y.env.scope a) (hd : (a == ("__debug__" : Str)) = false) (hcd : (a == ("__classdict__" : Str)) = false) :
    PE Y (.Call (.Name a p1) [] [] p2) (fun σZ HZ Q => σZ[i]? = some (some (.ref f)) ∧ HZ c' = some (CodeO c' (X.env.qual ++ "<lambda>")) ∧ tb σ HZ Q) := by
  obtain ⟨prog, w, K, mg, base, A, N, s0, H0, env, outer, stack, ex, fn, calm, pn, xe⟩ := Y
  dsimp only at e1 e2 e3 e4 e5
  subst e1 e2 e3 e4 e5
  refine ⟨fun pz sz σz Hz Q Iz hh => ?_⟩
  obtain ⟨hs, hco, ht⟩ := hh
  refine wpAny_Call_Name_kw (thn ((pe_var (pos := p1) (i := i) hN hv hd hcd).run pz sz σz Hz (fun v H2 => v = .ref f ∧ H2 = Hz) Iz ⟨.ref f, hs, rfl, rfl⟩) fun u s2 ⟨v, H2, I2, r2, e2⟩ => ?_)
  obtain ⟨ev, eh⟩ := e2
  rw [eh] at I2
  rw [ev] at r2
  obtain rfl : u = Value.ref f := r2
  have uz : Un (frs X.stack) [] H Hz s.heap s2.heap := link _ _ _ _ I2
  have hf2 := uz.keep f _ hf hfn hfr (by simp)
  refine PySem.W.callWith_F0 ⟨_, _, _, _, hf2⟩ ?_
  obtain ⟨⟨oc, vs, tq, g1, g2, g3⟩, _, _⟩ := I2.hok c' _ hco
  have px := passes_call (E := E) tk hW
  refine wpAny_call (codeAny_mono (R := CR (L2.CX X.prog X.w) stack X.prog X.w Hz s2 Q E) ?_ fun res s3 hq => ?_)
  · refine PySem.W.kla_callFunE hr.depth hf2 rfl L.co L.gen rfl ⟨c', oc, vs, tq, rfl, g1, g2, g3⟩ ?_
    refine wpAny_of_eq (a := []) hbd (wpAny_newFunctionEnv (fun y hy => (L.own y hy).2) (fun y hy => absurd hy (by simp)) (fun hz hns hsb => ⟨I2.nolimit.fresh _ hsb, ?_⟩) L.kind)
    have kz : ∀ b o, s2.heap.get? b = some o → hz.get? b = some o := fun b o e => hsb.extBut b o (Nat.ne_of_lt (Heap.lt_size e)) (Heap.get?_push_of_some _ e)
    have J := lam_start2 (E := E) (f := f) (c' := c') (tk := s2.toks + ([] : List (Str × Value)).length) I L I2.env0 hr.hd uz hns kz
    refine PySem.W.kla_codeExpr (wpAny_mono ((hbody A s2 Hz hgd (hr.deeper _) uz).run [] _ _ Hz Q J ht) (fun v s4 hq => ?_) fun e s4 hq => hq)
    obtain ⟨w', H4, J4, rv, q⟩ := hq
    exact ⟨w', H4, J4.os, J4.bare, J4.base, J4.hok, rv, q⟩
  · cases res with
    | error e => exact px pz σz Hz s2 e s3 I2 hq
    | ok fl =>
      cases fl with
      | ret u => exact I2.after hq
      | _ => exact False.elim hq
end
section
variable {X : Cx} {g : Gd} {B : Hp × Hp} {E : XK}
theorem frs_env {q : Str} {sg : Scope} {L gA : Addr} {cd : Value} {l : List Env} : frs (envOfC q sg L gA cd :: l) = L :: frs l := rfl
theorem link_lam {pins : List (Addr × Obj)} {σ : L2.St} {H Hz : Hp} {s s2 : Shared} {A : Around} {E : XK} {scope sg : Scope} {f c' gA : Addr} {q : Str} {cd : Value} (I : Inv X pins σ H s) (uz : Un (frs X.stack) [] H Hz s.heap s2.heap) :
    LinkU X (lamCx X A (envOfC q sg s.heap.objs.size gA cd :: X.stack) s2 Hz E scope f c') := fun pz σz Hz' sz Iz => by
  have b1 : Un (frs (envOfC q sg s.heap.objs.size gA cd :: X.stack)) [] Hz Hz' s2.heap sz.heap := Iz.base
  rw [frs_env] at b1
  have sub : ∀ b ∈ X.fs, b ∈ frs X.stack := fun b hb => by
    rcases I.ok.stk with e | ⟨e, hf⟩
    · rw [e]
      exact hb
    · rw [e]
      unfold frs
      rw [List.filterMap_cons, hf]
      exact List.mem_cons_of_mem _ hb
  have b2 := I.base.mono (fs' := s.heap.objs.size :: frs X.stack) (ex' := X.ex) (fun b hb => List.mem_cons_of_mem _ (sub b hb)) fun b hb => hb
  have b3 := uz.mono (fs' := s.heap.objs.size :: frs X.stack) (ex' := X.ex) (fun b hb => List.mem_cons_of_mem _ hb) fun b hb => by cases hb
  have b4 := b1.mono (fs' := s.heap.objs.size :: frs X.stack) (ex' := X.ex) (fun b hb => hb) fun b hb => by cases hb
  refine Un.shrink ((b2.trans b3).trans b4) fun b hb hn => ?_
  cases q : X.s_0.heap.get? b with
  | none => rfl
  | some o =>
    have lt := Heap.lt_size q
    have h1 := I.sz
    have h2 : X.s_0.heap.objs.size ≤ X.env.locals := I.ok.above
    rcases List.mem_cons.mp hb with e | hb
    · rw [e] at lt
      exact absurd (Nat.lt_of_lt_of_le lt h1) (Nat.lt_irrefl _)
    · rcases List.mem_cons.mp (I.stkSub b hb) with e | hb
      · rw [e] at lt
        exact absurd (Nat.lt_of_lt_of_le lt h2) (Nat.lt_irrefl _)
      · exact absurd hb hn
theorem pe_caughtT2 {T : List (Addr × Str)} {n : Nat} {st : Stmt} {x xe a nm er : Str} {gA CS cA PA : Addr} {fd : FuncData} {params : Arguments} {body : Expr} {scope : Scope} {p lpos pos : Pos} {tb : XK → TE} (c : CxK T (n + 2) X g E) (hg : Gl X x) (hm : X.mg x = some (.ref gA))
    (F : Fun X.K x x st gA fd) (hb : Binds X.K fd [a] []) (kb : KeepBody st a nm xe er) (hme : X.mg xe = some (.ref CS))
    (TB : TabB X.base X.mg cA PA) (hcode : X.env.code = .ref cA) (hmT : (PA, X.env.qual ++ "<lambda>") ∈ T) (hu : ∀ p ∈ T, p.1 = PA → p.2 = X.env.qual ++ "<lambda>") (L : LamS X.env.scope scope) (hdef : defaultsOf params X.env = ([], []))
    (hbind : ∀ (q : Str) (cl : List (Str × Addr)) (pm cv ctv : Value), bindArgs (PySem.W.kla_fn "<lambda>" q params body scope cl pm cv ctv) ⟨[], []⟩ = pure [])
    (hbody : ∀ (A : Around) (outer : List Env) (s : Shared) (H : Hp) (E' : XK) (f c' : Addr), CxK T n (lamCx X A outer s H E' scope f c') g E' → LinkU X (lamCx X A outer s H E' scope f c') → PE (lamCx X A outer s H E' scope f c') body (tb E'))
    (hdb : (x == ("__debug__" : Str)) = false := by decide) : PE X (.Call (.Name x p) [.Lambda params body scope lpos] [] pos) (fun σ H Q => Tabs T H ∧ ∀ H1, ExtN H H1 → Tabs T H1 →
      tb (fun cls d H2 => PySem.W.exmOne X.K cls (.ref CS) = some true ∧ ∀ a', H2 a' = none → Q (.ref a') (upd H2 a' (exV cls d a'))) σ H1 fun _ H2 => ∃ u : V, (some (some V.non) : Option (Option V)) = some (some u) ∧ Q u H2) := by
  obtain ⟨q1, q2, q3, p1, p2, p3, np, r1, r2, r3, p4, p5, w1, w2, j, hbd⟩ := kb.ex
  obtain ⟨d1, d2, d3, d4, d5, d6, d7⟩ := kb.nd
  obtain ⟨oc, od, kV, doc, pm, an, cdv, ct, osl, e, lk, hcg⟩ := F.ex
  subst e
  refine ⟨fun pins s σ H Q I hh => ?_⟩
  obtain ⟨hT, hq⟩ := hh
  refine wpAny_Call_Name_kw (ld_glob I hg hm ?_ hdb)
  refine PySem.W.callWith_K (h₀ := X.base) I.ok.mod.kin F.kp ?_ (by rfl) (by rfl)
  show wpAny _ _ (spliced ((false, eval (.Lambda params body scope lpos) X.env) :: _)) _ _ s
  refine Calls.spliced_cons (lam_make2 I TB hcode hmT hu hT hdef (L.has I.ok) fun f c' pm2 ctv H1 s1 I1 eN T1 hf hfn hfr hco => ?_)
  refine Calls.spliced_nil ⟨I1.kIn, ?_⟩
  have rc : codeAny (model X.prog X.w) X.A (.call (.ref gA) ⟨[.ref f], []⟩) (CR (L2.CX X.prog X.w) X.stack X.prog X.w H1 s1 Q (fun _ _ _ => False)) s1 := by
    refine run_ofS (N := [a, nm, er]) (ps := [a]) (us := [.ref f]) (vs := [.ref f]) lk hcg kb.scope c.room I1.env0 (hb s1 [.ref f] I1.kIn rfl) (.cons rfl .nil) rfl fun hr2 => ?_
    rw [hbd]
    refine ⟨_, pss_cons (ps_set (i := 1) kb.scope.nd rfl (.inl kb.ln) pe_non rfl (.inr kb.ln)) (pss_cons (ps_kept (i := 2) (c := .ref CS) (ts := fun _ => tAsg (tVar 2) (gName 1))
      (tb := fun W D σz Hz => ∃ Ech : XK, (∀ cls d σ' H', Ech cls d H' → σ'.length = 3 → W cls d σ' H') ∧ σz[0]? = some (some (.ref f)) ∧ Hz c' = some (CodeO c' (X.env.qual ++ "<lambda>")) ∧ tb Ech σ Hz fun _ H' => D.nx σz H')
      rfl rfl kb.scope.nd rfl kb.le ⟨kb.lx, d7, .inl hme⟩ rfl (fun W pn xe tk _ => ⟨fun pz sz σz Hz D Iz hz => ?_⟩) (fun a' oe pn => pss_one (ps_set (i := 1) kb.scope.nd rfl (.inl kb.ln) (pe_var (i := 2) rfl (.inl kb.le) d5 d6) rfl (.inr kb.ln))) (by simp)) (pss_one (ps_ret (pe_var (i := 1) rfl (.inl kb.ln) d3 d4)))), ?_⟩
    · obtain ⟨Ech, hW, h1, h2, h3⟩ := hz
      exact (pss_one (ps_expr (lam_act3 (X := X) (Y := (cxOf (L2.CX X.prog X.w) X.prog X.w X.K X.mg X.base [a, nm, er] x (defScope st) gA cdv X.A X.stack s1 H1 (fun _ _ _ => False)).tr pn xe) (i := 0) (E := Ech) rfl rfl rfl rfl rfl c.gd hr2 I1 L (fun _ _ _ _ I2 => I2.base) hfn hfr hf (hbind _ _ _ _ _) (takes_len tk) (fun cls d σ' H' z hl => hW cls d σ' H' z hl) (fun A s2 H2 hA hR uz =>
        hbody A _ s2 H2 Ech f c' ⟨hR, c.tb, hA, takes_of rfl rfl rfl rfl, rfl⟩ (link_lam I1 uz)) rfl (.inl kb.la) d1 d2))).run pz sz σz Hz D Iz ⟨h1, h2, h3⟩
    · have hq1 := hq H1 eN T1
      refine ⟨fun cls d H2 => PySem.W.exmOne X.K cls (.ref CS) = some true ∧ ∀ a', H2 a' = none → Q (.ref a') (upd H2 a' (exV cls d a')), fun cls d σ2 H2 z hl => ⟨z.1, fun a' ha' => ?_⟩, rfl, hco, ?_⟩
      · refine ⟨.ref a', by rw [List.getElem?_set_self (by omega)], ?_⟩
        refine ⟨.ref a', ?_, z.2 a' ha'⟩
        rw [List.getElem?_set_ne (by decide), List.getElem?_set_self (by rw [List.length_set]; omega)]
      · show tb _ σ H1 _
        exact hq1
  refine wpAny_call (codeAny_mono rc fun res s2 hq2 => ?_)
  cases res with
  | error e =>
    obtain ⟨_, _, _, _, _, _, _, _, _, _, _, _, w⟩ := hq2
    exact w.elim
  | ok fl =>
    cases fl with
    | ret u => exact I1.after hq2
    | _ => exact False.elim hq2
theorem ds_caA2 {T : List (Addr × Str)} {n : Nat} {st : Stmt} {x xe a nm er : Str} {gA CS cA PB : Addr} {fd : FuncData} {params : Arguments} {scope : Scope} {p lpos pos apos cpos p1 pos' apos' : Pos} {sub : Str → Bool} {e : Expr} {mb : EM} {i j : Nat} {told y : Str} (c : CxK T (n + 2) X g E) (hg : Gl X x) (hm : X.mg x = some (.ref gA))
    (F : Fun X.K x x st gA fd) (hb : Binds X.K fd [a] []) (kb : KeepBody st a nm xe er) (hme : X.mg xe = some (.ref CS)) (hsub : ∀ cx Cx, sub cx = true → X.mg cx = some (.ref Cx) → PySem.W.exmOne X.K (.ref Cx) (.ref CS) = some true)
    (TB : TabB X.base X.mg cA PB) (hcode : X.env.code = .ref cA) (hmT : (PB, X.env.qual ++ "<lambda>") ∈ T) (hu : ∀ p ∈ T, p.1 = PB → p.2 = X.env.qual ++ "<lambda>") (L : LamS X.env.scope scope) (hdef : defaultsOf params X.env = ([], []))
    (hbind : ∀ (q : Str) (cl : List (Str × Addr)) (pm cv ctv : Value), bindArgs (PySem.W.kla_fn "<lambda>" q params (.Call (.Attribute (.Name told p1) "append" apos) [e] [] cpos) scope cl pm cv ctv) ⟨[], []⟩ = pure [])
    (hbody : ∀ (A : Around) (outer : List Env) (s : Shared) (H : Hp) (E' : XK) (f c' : Addr) (B' : Hp × Hp), CxK T n (lamCx X A outer s H E' scope f c') g E' → Frm g B.1 B.2 B'.1 B'.2 → LinkU X (lamCx X A outer s H E' scope f c') → DE (lamCx X A outer s H E' scope f c') g B' E' e mb)
    (hp : ∀ (A : Around) (outer : List Env) (s : Shared) (H : Hp) (E' : XK) (f c' : Addr) {ta : TE} {t : TA}, PE (lamCx X A outer s H E' scope f c') (.Name told p1) ta → PA (lamCx X A outer s H E' scope f c') [e] t → PE (lamCx X A outer s H E' scope f c') (.Call (.Attribute (.Name told p1) "append" apos) [e] [] cpos) (tBM X.K "list" rAppend ta t))
    (hst : isStar e = false)
    (hN : X.N.Nodup) (hi : X.N[i]? = some told) (hv : Vis scope told) (hd : (told == ("__debug__" : Str)) = false) (hcd : (told == ("__classdict__" : Str)) = false)
    (hj : X.N[j]? = some y) (hij : i ≠ j) (hx : Loc X.env.scope y) (hs : swapsWith (.Call (.Name x p) [.Lambda params (.Call (.Attribute (.Name told p1) "append" apos) [e] [] cpos) scope lpos] [] pos) (some (.Name y pos')) apos'.line X.env = pure false) (hf : X.fn y = true ∨ X.env.scope.names.lookup y = some .local)
    (hdb : (x == ("__debug__" : Str)) = false := by decide) : DS X g B E (.Assign [.Name y pos'] (.Call (.Name x p) [.Lambda params (.Call (.Attribute (.Name told p1) "append" apos) [e] [] cpos) scope lpos] [] pos) apos') (sCaA j i sub mb) := by
  refine ps_imp (ps_set (i := j) hN hj hx (pe_caughtT2 (tb := fun E' σ H Q => ∃ B' : Hp × Hp, Frm g B.1 B.2 B'.1 B'.2 ∧ tBM X.K "list" rAppend (tVar i) (cloA X g B' E' (aCons mb aNil)) σ H Q) c hg hm F hb kb hme TB hcode hmT hu L hdef hbind (fun A outer s H E' f c' cK lk => ⟨fun pz sz σz Hz Q Iz hz => ?_⟩) hdb) hs hf) fun De σ H h => ?_
  · obtain ⟨B', hB, hz⟩ := hz
    exact (hp A outer s H E' f c' (pe_var (i := i) hi hv hd hcd) (da_cons (hbody A outer s H E' f c' B' cK hB lk) da_nil hst)).run pz sz σz Hz Q Iz hz
  · obtain ⟨env, S, k, ok, hm, kk⟩ := h
    unfold sCaA at hm
    cases e : env[i]? with
    | none =>
      rw [e] at hm
      exact hm.elim
    | some s =>
      rw [e] at hm
      cases s with
      | un => exact hm.elim
      | sh d => exact hm.elim
      | odc bk ks ws => exact hm.elim
      | own l =>
        have hT : Tabs T H := by
          rw [← c.tb]
          exact ok.frm.tb
        refine ⟨hT, fun H1 eN T1 => ?_⟩
        have ok1 : Ok X.K X.mg g B env S σ H1 := ok.lam eN (by rw [c.tb]; exact T1)
        obtain ⟨q, vs, h1, h2, h3, h4, h5, h6⟩ := ok1.slots i _ e
        refine ⟨(S, H1), ok1.frm, .ref q, h1, .inl ⟨rfl, _, .inl (.inl h5)⟩, env.map noOwn, S, (fun ds => match ds with | [d] => l.length < 16777216 ∧ k.nx ((env.set i (.own (l ++ [d]))).set j (.sh .non)) | _ => False), _, ok1.noOwn, hm, fun ds ws S2 H2 p2 ok2 ex2 rs => ?_, fun z cls dx S2 H2 q2 f2 rx => ?_⟩
        · have ok3 := ok1.call ok2.frm
          obtain ⟨q', vs', y1, y2, y3, y4, y5, y6⟩ := ok3.slots i _ e
          rw [h1] at y1
          have eq' : q = q' := by simpa using y1
          subst eq'
          match ds, p2 with
          | [d], p2 =>
            obtain ⟨v, rfl, r⟩ := rep1 rs
            refine ⟨q, vs', v, rfl, rfl, y5, by rw [← y6.len, sizeLine_eq]; exact p2.1, .non, rfl, ?_⟩
            exact kk.nx _ S2 _ _ p2.2 ((ok3.wr e h1 (y6.app (Reps.cons r Reps.nil))).set j (by unfold Rep; rfl)) ex2
        · cases z with
          | exc cx ns ds =>
            obtain ⟨Cx, vs', x1, x2, x3, x4, x5, x6⟩ := rx
            subst x2
            refine ⟨hsub cx Cx q2.1 x1, fun a' ha' => ?_⟩
            have nw := New.add (o := exV (.ref Cx) dx a') f2.le ha' (fun ps w => by unfold exV at w; cases w)
            refine kk.nx _ _ _ _ q2.2 ((ok1.call (f2.new nw)).set j ?_) (f2.ss.tr nw.ss)
            unfold Rep
            exact ⟨a', Cx, dx, vs', rfl, x1, upd_same, x3.mono nw.ss, x4, fun d2 w => nw.ss _ _ (x5 d2 w), x6⟩
          | _ => exact q2.elim
theorem ds_cauA2 {T : List (Addr × Str)} {n : Nat} {st : Stmt} {cA PB : Addr} {sub : Str → Bool} {q : Str} {params : Arguments} {scope : Scope} {p lpos pos apos cpos p1 pos' apos' : Pos} {e : Expr} {mb : EM} {i j : Nat} {told y : Str} (C : Cau X.K X.mg X.base T st cA PB q sub) (c : CxK T (n + 2) X g E) (hg : Gl X "_law_caught")
    (hcode : X.env.code = .ref cA) (L : LamS X.env.scope scope) (hdef : defaultsOf params X.env = ([], []))
    (hbind : ∀ (q : Str) (cl : List (Str × Addr)) (pm cv ctv : Value), bindArgs (PySem.W.kla_fn "<lambda>" q params (.Call (.Attribute (.Name told p1) "append" apos) [e] [] cpos) scope cl pm cv ctv) ⟨[], []⟩ = pure [])
    (hbody : ∀ (A : Around) (outer : List Env) (s : Shared) (H : Hp) (E' : XK) (f c' : Addr) (B' : Hp × Hp), CxK T n (lamCx X A outer s H E' scope f c') g E' → Frm g B.1 B.2 B'.1 B'.2 → LinkU X (lamCx X A outer s H E' scope f c') → DE (lamCx X A outer s H E' scope f c') g B' E' e mb)
    (hp : ∀ (A : Around) (outer : List Env) (s : Shared) (H : Hp) (E' : XK) (f c' : Addr) {ta : TE} {t : TA}, PE (lamCx X A outer s H E' scope f c') (.Name told p1) ta → L2.PA (lamCx X A outer s H E' scope f c') [e] t → PE (lamCx X A outer s H E' scope f c') (.Call (.Attribute (.Name told p1) "append" apos) [e] [] cpos) (tBM X.K "list" rAppend ta t))
    (hN : X.N.Nodup) (hst : isStar e = false := by rfl) (hi : X.N[i]? = some told := by rfl) (hv : Vis scope told := by first | exact Or.inl rfl | exact Or.inr (Or.inl rfl) | exact Or.inr (Or.inr rfl)) (hd : (told == ("__debug__" : Str)) = false := by decide) (hcd : (told == ("__classdict__" : Str)) = false := by decide)
    (hj : X.N[j]? = some y := by rfl) (hij : i ≠ j := by decide) (hx : Loc X.env.scope y := by first | exact Or.inl rfl | exact Or.inr rfl) (hs : swapsWith (.Call (.Name "_law_caught" p) [.Lambda params (.Call (.Attribute (.Name told p1) "append" apos) [e] [] cpos) scope lpos] [] pos) (some (.Name y pos')) apos'.line X.env = pure false := by rfl)
    (hf : X.fn y = true ∨ X.env.scope.names.lookup y = some .local := by first | exact .inl rfl | exact .inr rfl) (hq : X.env.qual ++ "<lambda>" = q := by rfl) : DS X g B E (.Assign [.Name y pos'] (.Call (.Name "_law_caught" p) [.Lambda params (.Call (.Attribute (.Name told p1) "append" apos) [e] [] cpos) scope lpos] [] pos) apos') (sCaA j i sub mb) := by
  obtain ⟨gA, CS, fd, h1, h2, h3, h4, h5⟩ := C.ex
  subst hq
  exact ds_caA2 c hg h1 h2 h3 C.kb h4 h5 C.tb hcode C.mem C.uq L hdef hbind hbody hp hst hN hi hv hd hcd hj hij hx hs hf
/-- x(): the lambda at f does w -/
@[simp] def eWk (i f : Nat) (w : W D) : EM := fun env P Z => env[i]? = some (.sh (.opq f)) ∧ w P Z
/-- within X's frame, a lambda of X that calls the name that holds f: it does w -/
def WorkC (T : List (Addr × Str)) (n : Nat) (X : Cx) (g : Gd) (B : Hp × Hp) (f : Nat) (w : W D) : Prop := ∀ (A : Around) (outer : List Env) (s : Shared) (H : Hp) (E' : XK) (scope : Scope) (f' c' : Addr) (B' : Hp × Hp) (i : Nat) (a : Str) (p1 p2 : Pos),
  CxK T n (lamCx X A outer s H E' scope f' c') g E' → Frm g B.1 B.2 B'.1 B'.2 → LinkU X (lamCx X A outer s H E' scope f' c') → X.N[i]? = some a → Vis scope a → (a == ("__debug__" : Str)) = false → (a == ("__classdict__" : Str)) = false →
  DE (lamCx X A outer s H E' scope f' c') g B' E' (.Call (.Name a p1) [] [] p2) (eWk i f w)
/-- the def x asked: a lambda, and e -/
@[simp] def eAsk (N : Nat) (m : Nat → W D → SM) (mb md : EM) : EM := fun env P Z => md env (fun d => ∀ f : Nat, m f (fun P' Z' => mb (env.map noOwn) P' Z') (.sh (.opq f) :: .sh d :: List.replicate (N - 2) .un) { nx := fun _ => P .non, rt := P, er := Z }) Z
end
end DL

set_option Elab.async false
set_option linter.all false
set_option maxRecDepth 100000
set_option maxHeartbeats 4000000
/-! ET: x(lambda: e, due), x a def that calls the lambda from a lambda of its own. -/
namespace DL
open PySem PySem.Spec PyProof.Rows L2 LamX
/-- the def x with the code object at c, whose lambdas' table is at P -/
structure LamD (K : PySem.W.Frag) (mg : Str → Option Value) (base : Heap) (T : List (Addr × Str)) (x : Str) (st : Stmt) (gA c P : Addr) (q : Str) : Prop where
  at_ : mg x = some (.ref gA)
  ex : ∃ (oc : Value) (od : Option Addr) (kV doc pm : Value) (an : Option Addr) (ct : Value) (osl : Array (Option Value)), K.lookup gA = some ⟨oc, od, .func (PySem.W.fnOf x x (defArgs st) (defBody st) (defScope st) .none kV doc pm an (.ref c) ct), osl⟩ ∧ PySem.W.codeIn K (.ref c) x = true
  kp : PySem.W.keepIn K (.ref gA) = true
  tb : TabB base mg c P
  mem : (P, q) ∈ T
  uq : ∀ p ∈ T, p.1 = P → p.2 = q
section
variable {P : Program} {w : World} {K : PySem.W.Frag} {mg : Str → Option Value} {base : Heap} {T : List (Addr × Str)}
/-- a def that makes lambdas: its code object is told -/
theorem fnD_C {x : Str} {st : Stmt} {N ps : List Str} {k : Nat} {m : SM} {G : List D → W D} {gA c PP : Addr} {q : Str} (LD : LamD K mg base T x st gA c PP q) (Sc : FnScope N ps (defScope st))
    (hb : ∀ (kV doc pm : Value) (an : Option Addr) (cdv ct : Value) (us : List Value), us.length = ps.length → bindArgs (PySem.W.fnOf x x (defArgs st) (defBody st) (defScope st) .none kV doc pm an cdv ct) ⟨us, []⟩ = pure (ps.zip us))
    (hbody : ∀ (A : Around) (outer : List Env) (s : Shared) (H : Hp) (E : XK) (g : Gd) (B : Hp × Hp), CxK T k (cxOf (L2.CX P w) P w K mg base N x (defScope st) gA (.ref c) A outer s H E) g E →
      DSs (cxOf (L2.CX P w) P w K mg base N x (defScope st) gA (.ref c) A outer s H E) g B E (defBody st) m) (i : ∀ ds P Z, G ds P Z → fnW N.length ps.length m ds P Z) : FnD P w K mg base T (k + 1) x st ps G := by
  obtain ⟨oc, od, kV, doc, pm, an, ct, osl, lk, hcg⟩ := LD.ex
  have F : Fun K x x st gA _ := fun_mk lk hcg LD.kp
  refine FnD.imp ⟨gA, _, LD.at_, F, F.binds hb, rfl, fun vs H Q E h => h.1, fun A outer s H args us vs Q E hr hg e0 bd rv q => ?_⟩ i
  refine LamX.run_ofS (N := N) lk hcg Sc hr e0 bd rv q.1 fun hr2 => ?_
  obtain ⟨hl, g, ds, S, P', Z, ht, fr, r, hf, kq, kx⟩ := q
  obtain ⟨hd, hf⟩ := hf
  refine ⟨_, hbody A outer s H E g (S, H) (cxk_of hr2 ht hg), ?_⟩
  have o := ok_start (N := N) fr r
  rw [hd] at o
  refine ⟨_, S, _, o, hf, fun env S' σ H' q ok' ex => ?_, fun d v S' H' q f' r' => kq d v S' H' q f' r', fun _ _ _ _ z => z.elim, fun _ _ _ _ z => z.elim, fun x cls dx S' H' q f' r' => kx x cls dx S' H' q f' r'⟩
  exact kq .non .non S' H' q ok'.frm (by unfold Rep; rfl)
end
/-- the def x asked: a lambda, and e -/
@[simp] def eAsk2 (N : Nat) (m : Nat → W D → SM) (mb md : EM) : EM := fun env P Z => md (env.map noOwn) (fun d => ∀ f : Nat, m f (fun P' Z' => mb (env.map noOwn) P' Z') (.sh (.opq f) :: .sh d :: List.replicate (N - 2) .un) { nx := fun _ => P .non, rt := P, er := Z }) Z
section
variable {X : Cx} {g : Gd} {B : Hp × Hp} {E : XK}
theorem de_asked {T : List (Addr × Str)} {j : Nat} {st : Stmt} {x p1n p2n : Str} {N : List Str} {gA cA PB cX PX gY : Addr} {qx qX y : Str} {sty : Stmt} {params : Arguments} {body due : Expr} {scope : Scope} {p lpos pos : Pos} {mb md : EM} {m : Nat → W D → SM}
    (c : CxK T (j + 4) X g E) (hg : Gl X x) (LD : LamD X.K X.mg X.base T x st gA cX PX qx) (hb : ∀ (kV doc pm : Value) (an : Option Addr) (cdv ct : Value) (us : List Value), us.length = 2 → bindArgs (PySem.W.fnOf x x (defArgs st) (defBody st) (defScope st) .none kV doc pm an cdv ct) ⟨us, []⟩ = pure ([p1n, p2n].zip us)) (Sc : FnScope N [p1n, p2n] (defScope st))
    (C : LamD X.K X.mg X.base T y sty gY cA PB qX) (hcode : X.env.code = .ref cA) (L : LamS X.env.scope scope) (hdef : defaultsOf params X.env = ([], []))
    (hbind : ∀ (q : Str) (cl : List (Str × Addr)) (pm cv ctv : Value), bindArgs (PySem.W.kla_fn "<lambda>" q params body scope cl pm cv ctv) ⟨[], []⟩ = pure [])
    (hAsk : ∀ (f : Nat) (w : W D) (A : Around) (outer : List Env) (s : Shared) (H : Hp) (E1 : XK) (B1 : Hp × Hp), CxK T (j + 3) (cxOf (L2.CX X.prog X.w) X.prog X.w X.K X.mg X.base N x (defScope st) gA (.ref cX) A outer s H E1) g E1 →
      WorkC T (j + 1) (cxOf (L2.CX X.prog X.w) X.prog X.w X.K X.mg X.base N x (defScope st) gA (.ref cX) A outer s H E1) g B1 f w → DSs (cxOf (L2.CX X.prog X.w) X.prog X.w X.K X.mg X.base N x (defScope st) gA (.ref cX) A outer s H E1) g B1 E1 (defBody st) (m f w))
    (hbody : ∀ (A : Around) (outer : List Env) (s : Shared) (H : Hp) (E' : XK) (f c' : Addr) (B' : Hp × Hp), CxK T j (lamCx X A outer s H E' scope f c') g E' → DE (lamCx X A outer s H E' scope f c') g B' E' body mb)
    (hdue : ∀ B' : Hp × Hp, DE X g B' E due md) (hq' : X.env.qual ++ "<lambda>" = qX := by rfl) (hst : isStar due = false := by rfl) (hdb : (x == ("__debug__" : Str)) = false := by decide) :
    DE X g B E (.Call (.Name x p) [.Lambda params body scope lpos, due] [] pos) (eAsk2 N.length m mb md) := by
  subst hq'
  obtain ⟨oc, od, kV, doc, pm, an, ct, osl, lk, hcg⟩ := LD.ex
  refine ⟨fun pins s σ H Q I hh => ?_⟩
  obtain ⟨env, S, P, Z, ok, hq, kq, kx⟩ := hh
  have hT : Tabs T H := by
    rw [← c.tb]
    exact ok.frm.tb
  have hns : noStar (.Lambda params body scope lpos :: [due]) = true := by
    unfold noStar
    show (!false && noStar [due]) = true
    unfold noStar
    rw [hst]
    rfl
  refine wpAny_Call_Name_kw (ld_glob I hg LD.at_ ?_ hdb)
  refine PySem.W.callWith_K (h₀ := X.base) I.ok.mod.kin LD.kp ?_ (st_cons hns) (st_any hns)
  rw [st_cons hns]
  show wpAny _ _ (spliced ((false, eval (.Lambda params body scope lpos) X.env) :: backTo pos (starEach [due] X.env))) _ _ s
  refine Calls.spliced_cons (lam_make2 I C.tb hcode C.mem C.uq hT hdef (L.has I.ok) fun f c' pm2 ctv H1 s1 I1 eN T1 hf hfn hfr hco => ?_)
  have ok1 : Ok X.K X.mg g B env S σ H1 := ok.lam eN (by rw [c.tb]; exact T1)
  have hcR : c' ∉ g.R := fun hr => by
    obtain ⟨o, ho, _, _, hx⟩ := g.dwa _ ok1.frm.dw c' hr
    rw [hco] at ho
    exact hx _ (Option.some.inj ho).symm
  have hfl : f ≠ X.env.locals ∧ f ∉ X.fs := by
    refine ⟨fun z => ?_, fun z => ?_⟩
    · obtain ⟨mm, ⟨o', es, ep, ho', hd', _⟩, _⟩ := I1.loc
      rw [← z, hf] at ho'
      cases ho'
      cases hd'
    · rcases I1.ok.stk with e | ⟨e, hf2⟩
      · exact hfr (by rw [e]; exact z)
      · refine hfr ?_
        rw [e]
        unfold frs
        rw [List.filterMap_cons, hf2]
        exact List.mem_cons_of_mem _ z
  have I1p : Inv X (pins ++ [(f, PySem.W.kla_obj "<lambda>" (X.env.qual ++ "<lambda>") params body scope (cloFrom X.env.cells scope.names []) pm2 c' ctv)]) σ H1 s1 := I1.pins_of fun q hq => by
    rcases List.mem_append.mp hq with hq | hq
    · exact I1.pin q (List.mem_append_right _ hq)
    · rw [List.mem_singleton.mp hq]
      exact ⟨hf, hfn, hfl.1, hfl.2, fun v z => by cases z⟩
  have pa : L2.PA X [due] (tCons (clo X g (S, H1) E md) tNil) := pa_cons (hdue (S, H1)) pa_nil (st_one hst)
  refine thn (pa.run pos _ s1 σ H1 (fun vs H2 => ∃ d v S2, vs = [v] ∧ Rep X.K X.mg g S2 d v ∧ Ok X.K X.mg g (S, H1) (env.map noOwn) S2 σ H2 ∧ Ex S S2 ∧
    ∀ f : Nat, m f (fun P' Z' => mb (env.map noOwn) P' Z') (.sh (.opq f) :: .sh d :: List.replicate (N.length - 2) .un) { nx := fun _ => P .non, rt := P, er := Z }) I1p ⟨env.map noOwn, S, _, Z, ok1.noOwn, hq, fun d v S2 H2 q ok2 ex r => ?_, fun z cls dx S' H' zz f2 rx => kx z cls dx S' H' zz (ok1.frm.tr f2) rx⟩) fun us s2 hh => ?_
  · exact ⟨d, v, S2, rfl, r, ok2, ex, q⟩
  obtain ⟨vs, H2, I2p, rv, d, v, S2, rfl, rd, ok2, ex2, hq2⟩ := hh
  have I2 : Inv X pins σ H2 s2 := I2p.unpinned
  obtain ⟨hf2, hfn2, _, _, _⟩ := I2p.pin (f, PySem.W.kla_obj "<lambda>" (X.env.qual ++ "<lambda>") params body scope (cloFrom X.env.cells scope.names []) pm2 c' ctv) (List.mem_append_right _ (List.mem_append_right _ (List.mem_singleton.mpr rfl)))
  have okA : Ok X.K X.mg g B env S2 σ H2 := ok1.call ok2.frm
  have hco2 : H2 c' = some (CodeO c' (X.env.qual ++ "<lambda>")) := ok2.frm.fr c' _ hco hcR fun ps z => by cases z
  have hw : ∀ (E1 : XK), WorkC T (j + 1) (cxOf (L2.CX X.prog X.w) X.prog X.w X.K X.mg X.base N x (defScope st) gA (.ref cX) X.A X.stack s2 H2 E1) g (S2, H2) f (fun P' Z' => mb (env.map noOwn) P' Z') := fun E1 A outer s' H' E' scope' f' c1 B' i a p1 p2 cY hF lkY hi hv hd hcd => by
    refine pe_imp (lam_act3 (X := X) (Y := lamCx (cxOf (L2.CX X.prog X.w) X.prog X.w X.K X.mg X.base N x (defScope st) gA (.ref cX) X.A X.stack s2 H2 E1) A outer s' H' E' scope' f' c1) (E := E') (k := j) (tb := fun σ H Q => ∃ B'' : Hp × Hp, clo X g B'' E' mb σ H Q)
      rfl rfl rfl rfl rfl cY.gd cY.room I2 L (fun pz σz Hz sz Iz => lkY pz σz Hz sz Iz) hfn2 hfr hf2 (hbind _ _ _ _ _) cY.tk (fun _ _ _ _ z => z) (fun A s2 Hz hA hR uz =>
        pe_any (t := fun B'' => clo X g B'' E' mb) fun B'' => hbody A _ s2 Hz E' f c' B'' ⟨hR, c.tb, hA, takes_of rfl rfl rfl rfl, rfl⟩) hi hv hd hcd) fun σZ HZ Q' h => ?_
    obtain ⟨env1, S1, P1, Z1, ok3, ⟨e1, hw⟩, kq1, kx1⟩ := h
    have fr3 := hF.tr ok3.frm
    refine ⟨?_, fr3.fr c' _ hco2 hcR (fun ps z => (by cases z)), (S1, HZ), env.map noOwn, S1, P1, Z1, (okA.call fr3).noOwn, hw, fun d v S' H' pd ok' ex r => kq1 d v S' H' pd (ok3.call ok'.frm) ex r, fun z cls dx S' H' zz f2 rx => kx1 z cls dx S' H' zz (ok3.frm.tr f2) rx⟩
    obtain ⟨v, w1, w2⟩ := ok3.slots i _ e1
    unfold Rep at w2
    subst w2
    exact w1
  have rc : codeAny (model X.prog X.w) X.A (.call (.ref gA) ⟨.ref f :: us, []⟩) (CR (L2.CX X.prog X.w) X.stack X.prog X.w H2 s2 Q E) s2 := by
    cases rv with
    | cons r0 rr =>
      cases rr
      refine run_ofS (N := N) (ps := [p1n, p2n]) (us := [.ref f, _]) (vs := [.ref f, v]) lk hcg Sc c.room I2.env0 (BindsTo.of_eq (hb _ _ _ _ _ _ _ rfl)) (.cons rfl (.cons r0 .nil)) rfl fun hr2 => ?_
      refine ⟨_, hAsk f _ X.A X.stack s2 H2 E (S2, H2) (cxk_of hr2 c.tb c.gd) (hw E), ?_⟩
      have o := ok_start (N := N) (K := X.K) (mg := X.mg) (ds := [.opq f, d]) (vs := [.ref f, v]) okA.frm.rf (.cons (by unfold Rep; rfl) (.cons rd .nil))
      refine ⟨_, S2, _, o, hq2 f, fun env' S' σ' H' q ok' ex => ?_, fun d' v' S' H' q f' r' => ?_, fun _ _ _ _ z => z.elim, fun _ _ _ _ z => z.elim, fun z cls dx S' H' zz f' rx => kx z cls dx S' H' zz (okA.frm.tr f') rx⟩
      · exact kq .non .non S' H' q (okA.call ok'.frm) (ex2.tr ex) (by unfold Rep; rfl)
      · exact kq d' v' S' H' q (okA.call f') (ex2.tr f'.ss) r'
  refine ⟨I2.kIn, ?_⟩
  refine wpAny_call (codeAny_mono rc fun res s3 hq => ?_)
  have px := passes_call c.tk (E := E) fun _ _ _ _ z => z
  cases res with
  | error e => exact px pins σ H2 s2 e s3 I2 hq
  | ok fl =>
    cases fl with
    | ret u => exact I2.after hq
    | _ => exact False.elim hq
end
end DL

set_option Elab.async false
set_option linter.all false
set_option maxRecDepth 100000
set_option maxHeartbeats 4000000
/-! EU: x, y = [], e where x is a cell. -/
namespace DL
open PySem PySem.Spec PyProof.Rows L2 LamX
section
variable {X : Cx} {g : Gd} {B : Hp × Hp} {E : XK} {b : Expr} {ml : Ev → W (List D)}
theorem ds_tgo {i j : Nat} {x y : Str} {px py pt pos : Pos} {kt k2 : Nat} {pt2 p2 : Pos} (hc : X.calm = true) (hN : X.N.Nodup) (hr : ∀ B', DAr X g B' E [b] ml) (hx : Loc X.env.scope x) (hy : Loc X.env.scope y) (hi : X.N[i]? = some x := by rfl) (hj : X.N[j]? = some y := by rfl)
    (fx : X.fn x = true ∨ X.env.scope.names.lookup x = some .local := by first | exact .inl rfl | exact .inr rfl) (fy : X.fn y = true ∨ X.env.scope.names.lookup y = some .local := by first | exact .inl rfl | exact .inr rfl)
    (hs : swapsWithSole [.Tuple [.Name x px, .Name y py] kt pt] (.Tuple [.List [] p2, b] k2 pt2) pos.line X.env = pure false := by rfl) (hw : swappedStores [.Tuple [.Name x px, .Name y py] kt pt] (.Tuple [.List [] p2, b] k2 pt2) X.env = pure none := by rfl)
    (h1 : (assignEach [.Tuple [.Name x px, .Name y py] kt pt] X.env).map (·.2) = [assign (.Tuple [.Name x px, .Name y py] kt pt) X.env] := by rfl) :
    DS X g B E (.Assign [.Tuple [.Name x px, .Name y py] kt pt] (.Tuple [.List [] p2, b] k2 pt2) pos) (sPo i [j] ml) :=
  ps_imp (ps_asg (pe_tup (pa_cons (pe_lst pa_nil) (pa_any (t := fun B1 => cloA X g B1 E ml) hr) (st_one rfl))) (pg_tup hc (pgs_cons (pg_name (i := i) hN hi hx fx) (pgs_cons (pg_name (i := j) hN hj hy fy) pgs_nil))) hs hw h1) fun De σ H h => by
    obtain ⟨env, S, k, ok, hm, kk⟩ := h
    refine ⟨by rw [sizeLine_eq]; show 0 ≤ 16777216; omega, fun q hq => ?_⟩
    have ok1 := ok.new (New.hid (o := .lst []) ok.frm.le hq)
    refine ⟨(S, _), env.map noOwn, S, _, k.er, ok1.noOwn, hm, fun ds vs S' H' p ok' ex r => ?_, fun x cls dx S' H' q2 f2 rx => kk.er x cls dx S' H' q2 (ok1.frm.tr f2) rx⟩
    match ds, p with
    | [d1], p =>
      obtain ⟨v1, rfl, r1⟩ := rep1 r
      refine ⟨by rw [sizeLine_eq]; show 2 ≤ 16777216; omega, fun pp hpp => ?_⟩
      have ok3 := (po_take i ok hq ok'.frm).set j r1
      refine ⟨pp, [.ref q, v1], rfl, .inl (.inl upd_same), rfl, .ref q, [v1], rfl, v1, [], rfl, rfl, ?_⟩
      exact kk.nx _ S' _ _ p (ok3.new (New.hid (o := .tup [.ref q, v1]) ok3.frm.le hpp)) ex
end
@[simp] def tg4 (i j k l : Nat) : D → Ev → Option Ev := fun d env => match d with
  | .tup [a, b, c, d] => some ((((env.set i (.sh a)).set j (.sh b)).set k (.sh c)).set l (.sh d))
  | _ => none
section
variable {X : Cx} {g : Gd}
theorem tg4_ok (i j k l : Nat) : TgOk X g (gTup X.K 4 (gCons (gName i) (gCons (gName j) (gCons (gName k) (gCons (gName l) gNil))))) (tg4 i j k l) [i, j, k, l] := ⟨fun B d x σ H env env' S Q ok r e h => by
  unfold tg4 at e
  split at e
  · rename_i a b c d
    have e' := Option.some.inj e
    subst e'
    unfold Rep at r
    obtain ⟨p, vs, h1, h2, h3⟩ := r
    unfold Reps at h3
    obtain ⟨w, ws, rfl, r1, h3⟩ := h3
    unfold Reps at h3
    obtain ⟨w2, ws2, rfl, r2, h3⟩ := h3
    unfold Reps at h3
    obtain ⟨w3, ws3, rfl, r3, h3⟩ := h3
    unfold Reps at h3
    obtain ⟨w4, ws4, rfl, r4, h3⟩ := h3
    unfold Reps at h3
    subst h3
    refine ⟨p, [w, w2, w3, w4], h1, ok.frm.le.sqT h2, rfl, w, [w2, w3, w4], rfl, w2, [w3, w4], rfl, w3, [w4], rfl, w4, [], rfl, rfl, ?_⟩
    refine h _ ((((ok.set i r1).set j r2).set k r3).set l r4) (fun m hk => ?_) (by rw [List.length_set, List.length_set, List.length_set, List.length_set])
    rw [List.getElem?_set_ne (fun q => hk (by rw [q]; simp)), List.getElem?_set_ne (fun q => hk (by rw [q]; simp)), List.getElem?_set_ne (fun q => hk (by rw [q]; simp)), List.getElem?_set_ne (fun q => hk (by rw [q]; simp))]
  · cases e⟩
end
end DL

set_option Elab.async false
set_option linter.all false
set_option maxRecDepth 100000
set_option maxHeartbeats 4000000
namespace DL
open PySem PySem.Spec PyProof.Rows L2
/-! ### monomials, stairs -/
def divs (a b : List Int) : Bool := (List.zipWith (fun x y => decide (x ≤ y)) a b).all id
def lcmR (a b : List Int) : List Int := List.zipWith max a b
def minsOf (l : List (List Int)) : List (List Int) := l.filter fun m => !(l.any fun o => !decide (o = m) && divs o m)
def leastS (nss : List (List Int)) : List (List Int) := minsOf (sortR (nubR nss))
/-- a whole number within bounds -/
def good (d : D) (lo hi : Int) : Bool := match d with
  | .int i => decide (lo ≤ i ∧ i ≤ hi)
  | _ => false
def monB (l : Int) (d : D) (most : Int) : Bool := match d with
  | .tup ds => decide ((ds.length : Int) = l) && ds.all fun e => good e 0 most
  | _ => false
def stB (l : Int) (d : D) : Bool := match d with
  | .tup ds => decide (1 ≤ ds.length ∧ ds.length ≤ 10) && (ds.all (fun e => monB l e 6) && (match itsOf ds with
    | some nss => decide (leastS nss = nss)
    | none => false))
  | _ => false
def isPl (d : D) : Prop := (toPy d).isSome = true
def okR (nss : List (List Int)) : Prop := ∀ ns ∈ nss, ns ≠ [] ∧ ns.length ≤ 1000
def rowsOf : D → Option (List (List Int))
  | .lst l => itsOf l
  | .tup l => itsOf l
  | _ => none
def rowsD (nss : List (List Int)) : D := .tup (nss.map rowD)
def badL : D := .exc "BadNumber" ["part"] [.str "letters"]
def badM : D := .exc "BadMonomial" [] []
def badS : D := .exc "BadStairs" [] []
def many (n : Int) : D := .exc "TooMany" ["most"] [.int n]
/-! ### sums, common ones, products, quotients -/
def prodR (a b : List Int) : List Int := List.zipWith (fun x y => x + y) a b
def overR (s m : List Int) : List Int := List.zipWith (fun p l => max 0 (p - l)) s m
def prsR (A B : List (List Int)) : List (List Int × List Int) := A.flatMap fun a => B.map fun b => (a, b)
def pairD (q : List Int × List Int) : D := .tup [rowD q.1, rowD q.2]
def metL (A B : List (List Int)) : List (List Int) := (prsR A B).map fun q => lcmR q.1 q.2
def prodL (A B : List (List Int)) : List (List Int) := (prsR A B).map fun q => prodR q.1 q.2
def overL (A : List (List Int)) (m : List Int) : List (List Int) := A.map fun s => overR s m
def big (X : List (List Int)) : Bool := X.any fun m => decide (6 < maxL m)
/-- what comes of least ones: they are told, or an error comes -/
def madeO (X : List (List Int)) (P Z : D → Prop) : Prop := if big X = true then Z badM else if X.length ≤ 10 then P (rowsD X) else Z (many 10)
def boundsT (X : List (List Int)) : List D := (if big X = true then [D.str "monomial"] else []) ++ (if 10 < X.length then [D.str "many 10"] else [])
def undr (nss : List (List Int)) (x : List Int) : Bool := nss.any fun s => divs s x
def boxR (l : Int) (nss : List (List Int)) : Prop := ∀ ns ∈ nss, (ns.length : Int) = l ∧ ∀ x ∈ ns, 0 ≤ x ∧ x ≤ 6
def lenR (l : Int) (nss : List (List Int)) : Prop := ∀ ns ∈ nss, (ns.length : Int) = l ∧ ∀ x ∈ ns, 0 ≤ x ∧ x ≤ 100
end DL
namespace K62
open PySem PySem.Spec PyProof.Rows L2 DL
def top (i : Nat) : Stmt := PySem.Challenge.pw_lotsclosed_k62_whole_sums_of_stairs.main.body.getD i (.Pass ⟨0, 0, 0, 0⟩)
def v_MOST_LETTERS : Int := 4
def v_MOST_POWER : Int := 6
def v_MOST_STAIRS : Int := 10
def v_BIG : Int := 1606938044258990275541962092341162602522202993782792835301376
def F_is_number : List D → W D := fun ds P _ => match ds with
  | [d] => tyN d ≠ none ∧ P (.bl (match d with
    | .int _ => true
    | _ => false))
  | _ => False
def F_is_between : List D → W D := fun ds P _ => match ds with
  | [d, .int lo, .int hi] => tyN d ≠ none ∧ P (.bl (good d lo hi))
  | _ => False
def F_is_tuple : List D → W D := fun ds P _ => match ds with
  | [d, .int n] => tyN d ≠ none ∧ P (.bl (match d with
    | .tup l => decide ((l.length : Int) = n)
    | _ => false))
  | _ => False
def F_need_between : List D → W D := fun ds P Z => match ds with
  | [d, .int lo, .int hi, .str part] => tyN d ≠ none ∧ if good d lo hi = true then P .non else Z (.exc "BadNumber" ["part"] [.str part])
  | _ => False
def F_need_few : List D → W D := fun ds P Z => match ds with
  | [.int n, .int m] => if m < n then Z (many m) else P .non
  | _ => False
def F_need_letters : List D → W D := fun ds P Z => match ds with
  | [d] => tyN d ≠ none ∧ if good d 1 4 = true then P .non else Z badL
  | _ => False
def F_is_monomial : List D → W D := fun ds P _ => match ds with
  | [.int l, d, .int most] => (isPl d ∧ l ≤ 1000) ∧ P (.bl (monB l d most))
  | _ => False
def F_need_monomial : List D → W D := fun ds P Z => match ds with
  | [.int l, d, .int most] => (isPl d ∧ l ≤ 1000) ∧ if monB l d most = true then P .non else Z badM
  | _ => False
def F_divides : List D → W D := fun ds P _ => match ds with
  | [a, b] => match itOf a, itOf b with
    | some x, some y => x.length ≤ 1000 ∧ P (.bl (divs x y))
    | _, _ => False
  | _ => False
def F_multiple_of : List D → W D := fun ds P _ => match ds with
  | [a, b] => match itOf a, itOf b with
    | some x, some y => x.length ≤ 1000 ∧ P (rowD (lcmR x y))
    | _, _ => False
  | _ => False
def F_least_of : List D → W D := fun ds P _ => match ds with
  | [d] => match rowsOf d with
    | some nss => (okR nss ∧ nss.length < 64) ∧ P (rowsD (leastS nss))
    | none => False
  | _ => False
def F_is_stairs_told : List D → W D := fun ds P _ => match ds with
  | [.int l, d] => (isPl d ∧ 1 ≤ l ∧ l ≤ 1000) ∧ P (.bl (stB l d))
  | _ => False
def F_need_stairs : List D → W D := fun ds P Z => match ds with
  | [.int l, d] => (isPl d ∧ 1 ≤ l ∧ l ≤ 1000) ∧ if stB l d = true then P .non else Z badS
  | _ => False
/-- letters are judged first -/
def lets (a : D) (p : Int → W D) : W D := fun P Z => tyN a ≠ none ∧ if good a 1 4 = true then (match a with
  | .int l => p l P Z
  | _ => False) else Z badL
def F_law_mixed : List D → W D := fun ds P _ => ds = [.drw] ∧ ∀ z : Int, 0 ≤ z → P (.int z)
def F_law_take : List D → W D := fun ds P _ => match ds with
  | [.drw, .int n] => (0 < n ∧ n < v_BIG) ∧ ∀ k : Int, 0 ≤ k → k < n → P (.int k)
  | _ => False
def F_law_pick : List D → W D := fun ds P _ => match ds with
  | [.drw, .lst l] => (0 < l.length ∧ l.length < 1000) ∧ ∀ d ∈ l, P d
  | _ => False
def F_law_says : List D → W D := fun ds P _ => match ds with
  | [a, b] => match toPy a, toPy b with
    | some p, some q => ((p.showable = true ∧ p.shown.length ≤ 16777216 ∧ p.depth ≤ 100) ∧ (q.showable = true ∧ q.shown.length ≤ 16777216 ∧ q.depth ≤ 100)) ∧ P (.bl (decide (p.shown = q.shown)))
    | _, _ => False
  | _ => False
def F_law_divides : List D → W D := F_divides
def F_law_common : List D → W D := F_multiple_of
def F_law_least : List D → W D := fun ds P _ => match ds with
  | [d] => match rowsOf d with
    | some nss => (okR nss ∧ nss.length ≤ 1000) ∧ P (rowsD (leastS nss))
    | none => False
  | _ => False
def F_law_monomial : List D → W D := fun ds P _ => match ds with
  | [.drw, .int l, .int high] => (0 ≤ l ∧ l ≤ 1000 ∧ 0 ≤ high ∧ high ≤ 1000) ∧ ∀ ns : List Int, (ns.length : Int) = l → (∀ x ∈ ns, 0 ≤ x ∧ x ≤ high) → P (rowD ns)
  | _ => False
def F_law_no_letters : List D → W D := fun ds P _ => match ds with
  | [.drw] => ∀ d ∈ [D.int 0, .int 5, .int (-1), .non, .bl true, .str "2", .tup [.int 2]], P d
  | _ => False
def F_law_no_stairs : List D → W D := fun ds P _ => match ds with
  | [.drw, .int l, own] => (1 ≤ l ∧ l ≤ 4 ∧ stB l own = true) ∧ ∀ d, isPl d → stB l d = false → P d
  | _ => False
def F_law_word : List D → W D := fun ds P _ => match ds with
  | [.non] => P (.str "")
  | [.exc x ns es] => (x = "BadNumber" ∧ ns = (["part"] : List Str) ∧ (match es with
      | [.str s] => s = "letters" ∧ P (.str "number 'letters'")
      | _ => False)) ∨ (x = "TooMany" ∧ ns = (["most"] : List Str) ∧ (match es with
      | [.int n] => n = 10 ∧ P (.str "many 10")
      | _ => False)) ∨ (x = "BadMonomial" ∧ P (.str "monomial")) ∨ (x = "BadStairs" ∧ P (.str "stairs"))
  | _ => False
def F_made_stairs : List D → W D := fun ds P Z => match ds with
  | [d] => match rowsOf d with
    | some nss => (okR nss ∧ nss.length < 64) ∧ madeO (leastS nss) P Z
    | none => False
  | _ => False
def two (l : Int) (d1 d2 : D) (P : Prop) (Z : D → Prop) : Prop := isPl d1 ∧ if stB l d1 = true then (isPl d2 ∧ if stB l d2 = true then P else Z badS) else Z badS
def F_need_two : List D → W D := fun ds P Z => match ds with
  | [a, d1, d2] => lets a (fun l P Z => two l d1 d2 (P .non) Z) P Z
  | _ => False
def F_pairs_of : List D → W D := fun ds P _ => match ds with
  | [d1, d2] => match rowsOf d1, rowsOf d2 with
    | some A, some B => (A.length ≤ 1000 ∧ B.length ≤ 1000) ∧ P (.lst ((prsR A B).map pairD))
    | _, _ => False
  | _ => False
def F_met_monomials : List D → W D := fun ds P _ => match ds with
  | [d1, d2] => match rowsOf d1, rowsOf d2 with
    | some A, some B => ((okR A ∧ okR B) ∧ A.length * B.length < 64 ∧ A.length ≤ 1000 ∧ B.length ≤ 1000) ∧ P (rowsD (leastS (metL A B)))
    | _, _ => False
  | _ => False
def F_stairs_sum : List D → W D := fun ds P Z => match ds with
  | [a, d1, d2] => lets a (fun l P Z => two l d1 d2 (match rowsOf d1, rowsOf d2 with
    | some A, some B => madeO (leastS (A ++ B)) P Z
    | _, _ => False) Z) P Z
  | _ => False
def F_stairs_both : List D → W D := fun ds P Z => match ds with
  | [a, d1, d2] => lets a (fun l P Z => two l d1 d2 (match rowsOf d1, rowsOf d2 with
    | some A, some B => A.length * B.length < 64 ∧ madeO (leastS (metL A B)) P Z
    | _, _ => False) Z) P Z
  | _ => False
def F_stairs_times : List D → W D := fun ds P Z => match ds with
  | [a, d1, d2] => lets a (fun l P Z => two l d1 d2 (match rowsOf d1, rowsOf d2 with
    | some A, some B => A.length * B.length < 64 ∧ madeO (leastS (prodL A B)) P Z
    | _, _ => False) Z) P Z
  | _ => False
def F_stairs_over : List D → W D := fun ds P Z => match ds with
  | [a, d, m] => lets a (fun l P Z => isPl d ∧ if stB l d = true then (isPl m ∧ if monB l m 6 = true then (match rowsOf d, itOf m with
    | some A, some x => madeO (leastS (overL A x)) P Z
    | _, _ => False) else Z badM) else Z badS) P Z
  | _ => False
def F_law_drawn : List D → W D := fun ds P _ => match ds with
  | [.drw, .int l, .int most] => ((1 ≤ l ∧ l ≤ 4) ∧ 1 ≤ most ∧ most ≤ 9) ∧ ∀ nss, stB l (rowsD nss) = true → (nss.length : Int) ≤ most → P (rowsD nss)
  | _ => False
def F_law_stands_under : List D → W D := fun ds P _ => match ds with
  | [d, m] => match rowsOf d, itOf m with
    | some nss, some x => (okR nss ∧ nss.length ≤ 1000) ∧ P (.bl (undr nss x))
    | _, _ => False
  | _ => False
def F_law_bounds : List D → W D := fun ds P _ => match ds with
  | [d] => match rowsOf d with
    | some nss => (okR nss ∧ nss.length ≤ 1000) ∧ P (.lst (boundsT nss))
    | _ => False
  | _ => False
def F_law_products : List D → W D := fun ds P _ => match ds with
  | [d1, d2] => match rowsOf d1, rowsOf d2 with
    | some A, some B => ((okR A ∧ okR B) ∧ A.length * B.length ≤ 1000 ∧ A.length ≤ 1000 ∧ B.length ≤ 1000) ∧ P (rowsD (leastS (prodL A B)))
    | _, _ => False
  | _ => False
def F_law_met : List D → W D := fun ds P _ => match ds with
  | [d1, d2] => match rowsOf d1, rowsOf d2 with
    | some A, some B => ((okR A ∧ okR B) ∧ A.length * B.length ≤ 1000 ∧ A.length ≤ 1000 ∧ B.length ≤ 1000) ∧ P (rowsD (leastS (metL A B)))
    | _, _ => False
  | _ => False
def F_law_over : List D → W D := fun ds P _ => match ds with
  | [d, m] => match rowsOf d, itOf m with
    | some A, some x => (okR A ∧ A.length ≤ 1000 ∧ x ≠ [] ∧ x.length ≤ 1000) ∧ P (rowsD (leastS (overL A x)))
    | _, _ => False
  | _ => False
def F_law_is_told : List D → W D := fun ds P _ => match ds with
  | [d] => match rowsOf d with
    | some nss => (okR nss ∧ nss.length ≤ 1000) ∧ P (.bl (!big nss && decide (nss.length ≤ 10)))
    | _ => False
  | _ => False
def F_law_brackets_right : List D → W D := fun ds P _ => match ds with
  | [.int l, .tup a, .tup b, .tup c] => match itsOf a, itsOf b, itsOf c with
    | some A, some B, some C => (stB l (.tup a) = true ∧ stB l (.tup b) = true ∧ stB l (.tup c) = true ∧ (1 ≤ l ∧ l ≤ 4) ∧ A.length ≤ 5 ∧ B.length ≤ 5 ∧ C.length ≤ 3) ∧ P (.bl true)
    | _, _, _ => False
  | _ => False
def famL (x : Str) : Option (Nat × (List D → W D)) := if x = "stairs_sum" then some (3, F_stairs_sum) else if x = "stairs_both" then some (3, F_stairs_both) else if x = "stairs_times" then some (3, F_stairs_times) else if x = "stairs_over" then some (3, F_stairs_over) else none
def ko (t : String) (c : Str) : Option Bool := none
def exs : List Str := ["BadNumber", "TooMany", "BadMonomial", "BadStairs"]
def exa : List Str := ["BadNumber", "TooMany", "BadMonomial", "BadStairs", "BadParts", "BadTop"]
def ke (x c : Str) : Option Bool := if x ∈ exs ∧ c ∈ exa then some (decide (x = c)) else none
def okx_part (x : Str) : Bool := x == "BadNumber"
def okx_most (x : Str) : Bool := x == "TooMany"
def subx (x : Str) : Bool := decide (x ∈ exs)
/-- what the top has written -/
structure Vx (P : Program) (w : World) (K : PySem.W.Frag) (mg : Str → Option Value) (base : Heap) (T : List (Addr × Str)) : Prop where
  b_abs : mg "abs" = none
  b_all : mg "all" = none
  b_any : mg "any" = none
  b_bool : mg "bool" = none
  b_int : mg "int" = none
  b_isinstance : mg "isinstance" = none
  b_len : mg "len" = none
  b_list : mg "list" = none
  b_max : mg "max" = none
  b_min : mg "min" = none
  b_range : mg "range" = none
  b_repr : mg "repr" = none
  b_set : mg "set" = none
  b_sorted : mg "sorted" = none
  b_tuple : mg "tuple" = none
  b_zip : mg "zip" = none
  g_MOST_LETTERS : ∃ t, mg "MOST_LETTERS" = some (.int v_MOST_LETTERS t)
  g_MOST_POWER : ∃ t, mg "MOST_POWER" = some (.int v_MOST_POWER t)
  g_MOST_STAIRS : ∃ t, mg "MOST_STAIRS" = some (.int v_MOST_STAIRS t)
  c_BadNumber : ∃ C, mg "BadNumber" = some (.ref C) ∧ ∃ fI, SupC P K mg C fI "part" "part"
  c_TooMany : ∃ C, mg "TooMany" = some (.ref C) ∧ ∃ fI, SupC P K mg C fI "most" "most"
  c_BadMonomial : ∃ C, mg "BadMonomial" = some (.ref C) ∧ True
  c_BadStairs : ∃ C, mg "BadStairs" = some (.ref C) ∧ True
  c_BadParts : ∃ C, mg "BadParts" = some (.ref C) ∧ True
  c_BadTop : ∃ C, mg "BadTop" = some (.ref C) ∧ True
  r_BadMonomial : R0C K mg "BadMonomial"
  r_BadStairs : R0C K mg "BadStairs"
  d__law_asked : DefF K mg "_law_asked" (top 55)
  d__law_begun : DefF K mg "_law_begun" (top 36)
  d__law_bounds : DefF K mg "_law_bounds" (top 51)
  d__law_brackets_right : DefF K mg "_law_brackets_right" (top 57)
  d__law_caught : DefF K mg "_law_caught" (top 40)
  d__law_common : DefF K mg "_law_common" (top 43)
  d__law_divides : DefF K mg "_law_divides" (top 42)
  d__law_drawn : DefF K mg "_law_drawn" (top 46)
  d__law_is_told : DefF K mg "_law_is_told" (top 56)
  d__law_least : DefF K mg "_law_least" (top 44)
  d__law_met : DefF K mg "_law_met" (top 53)
  d__law_mixed : DefF K mg "_law_mixed" (top 37)
  d__law_monomial : DefF K mg "_law_monomial" (top 45)
  d__law_no_letters : DefF K mg "_law_no_letters" (top 48)
  d__law_no_stairs : DefF K mg "_law_no_stairs" (top 49)
  d__law_over : DefF K mg "_law_over" (top 54)
  d__law_pick : DefF K mg "_law_pick" (top 39)
  d__law_products : DefF K mg "_law_products" (top 52)
  d__law_says : DefF K mg "_law_says" (top 41)
  d__law_stands_under : DefF K mg "_law_stands_under" (top 47)
  d__law_take : DefF K mg "_law_take" (top 38)
  d__law_word : DefF K mg "_law_word" (top 50)
  d_divides : DefF K mg "divides" (top 21)
  d_is_between : DefF K mg "is_between" (top 10)
  d_is_monomial : DefF K mg "is_monomial" (top 19)
  d_is_number : DefF K mg "is_number" (top 9)
  d_is_stairs_told : DefF K mg "is_stairs_told" (top 24)
  d_is_tuple : DefF K mg "is_tuple" (top 11)
  d_law : DefF K mg "law" (top 58)
  d_least_of : DefF K mg "least_of" (top 23)
  d_made_stairs : DefF K mg "made_stairs" (top 26)
  d_met_monomials : DefF K mg "met_monomials" (top 30)
  d_multiple_of : DefF K mg "multiple_of" (top 22)
  d_need_between : DefF K mg "need_between" (top 12)
  d_need_few : DefF K mg "need_few" (top 13)
  d_need_letters : DefF K mg "need_letters" (top 18)
  d_need_monomial : DefF K mg "need_monomial" (top 20)
  d_need_stairs : DefF K mg "need_stairs" (top 25)
  d_need_two : DefF K mg "need_two" (top 28)
  d_pairs_of : DefF K mg "pairs_of" (top 29)
  d_stairs_both : DefF K mg "stairs_both" (top 32)
  d_stairs_over : DefF K mg "stairs_over" (top 34)
  d_stairs_sum : DefF K mg "stairs_sum" (top 31)
  d_stairs_times : DefF K mg "stairs_times" (top 33)
  ko : ∀ t c C b, K62.ko t c = some b → mg c = some (.ref C) → PySem.W.kitOne K (.type t) (.ref C) = some b
  ke : ∀ x c Cx Cc b, K62.ke x c = some b → mg x = some (.ref Cx) → mg c = some (.ref Cc) → XcK K Cx ∧ PySem.W.kitOne K (.ref Cx) (.ref Cc) = some b
  okx_part : ∀ x C, K62.okx_part x = true → mg x = some (.ref C) → XcK K C ∧ PySem.W.findIn K (.ref C) "part" = some none
  okx_most : ∀ x C, K62.okx_most x = true → mg x = some (.ref C) → XcK K C ∧ PySem.W.findIn K (.ref C) "most" = some none
section
variable {P : Program} {w : World} {K : PySem.W.Frag} {mg : Str → Option Value} {base : Heap} {T : List (Addr × Str)}
theorem sc_is_number : FnScope ["thing"] ["thing"] (defScope (top 9)) := ⟨rfl, rfl, rfl, by decide +kernel, rfl, by decide +kernel, by decide +kernel⟩
def m_is_number : SM := (sRt (eAnd (eA (bIsi ko ke) (aCons (eVar 0) (aCons (eC (.ty "int")) aNil))) (eNot (eA (bIsi ko ke) (aCons (eVar 0) (aCons (eC (.ty "bool")) aNil))))))
theorem k_is_number (V : Vx P w K mg base T)  (i : ∀ ds Q Z, F_is_number ds Q Z → fnW 1 1 m_is_number ds Q Z) : FnD P w K mg base T 1 "is_number" (top 9) ["thing"] F_is_number :=
  fnD_mk V.d_is_number sc_is_number (fun _ _ _ _ _ _ us hl => match us, hl with | [_], _ => rfl) (fun f cdv A outer s H E g B c => by
  unfold m_is_number
  refine dss_one ?_
  refine ds_rt ?_
  refine de_and ?_ ?_
  refine db_isi (bisi_ok V.ko V.ke) V.b_isinstance (by rfl) ?_
  refine da_cons ?_ ?_
  exact de_var (i := 0)
  refine da_cons ?_ ?_
  exact dv_ty V.b_int (by rfl) boot1
  exact da_nil
  refine de_one ?_
  refine de_not ?_
  refine db_isi (bisi_ok V.ko V.ke) V.b_isinstance (by rfl) ?_
  refine da_cons ?_ ?_
  exact de_var (i := 0)
  refine da_cons ?_ ?_
  exact dv_ty V.b_bool (by rfl) boot2
  exact da_nil) i
theorem sc_is_between : FnScope ["thing", "low", "high"] ["thing", "low", "high"] (defScope (top 10)) := ⟨rfl, rfl, rfl, by decide +kernel, rfl, by decide +kernel, by decide +kernel⟩
def m_is_between : SM := (sRt (eAnd (eF 1 F_is_number (aCons (eVar 0) aNil)) (eCh dLe dLe (eVar 1) (eVar 0) (eVar 2))))
theorem k_is_between (V : Vx P w K mg base T) (f_is_number : FnD P w K mg base T 1 "is_number" (top 9) ["thing"] F_is_number) (i : ∀ ds Q Z, F_is_between ds Q Z → fnW 3 3 m_is_between ds Q Z) : FnD P w K mg base T 2 "is_between" (top 10) ["thing", "low", "high"] F_is_between :=
  fnD_mk V.d_is_between sc_is_between (fun _ _ _ _ _ _ us hl => match us, hl with | [_, _, _], _ => rfl) (fun f cdv A outer s H E g B c => by
  unfold m_is_between
  refine dss_one ?_
  refine ds_rt ?_
  refine de_and ?_ ?_
  refine de_call f_is_number c (by decide) (by rfl) ?_
  refine da_cons ?_ ?_
  exact de_var (i := 0)
  exact da_nil
  refine de_one ?_
  refine de_ch op_le op_le dle_ok dle_ok ?_ ?_ ?_
  exact de_var (i := 1)
  exact de_var (i := 0)
  exact de_var (i := 2)) i
theorem sc_is_tuple : FnScope ["thing", "size"] ["thing", "size"] (defScope (top 11)) := ⟨rfl, rfl, rfl, by decide +kernel, rfl, by decide +kernel, by decide +kernel⟩
def m_is_tuple : SM := (sRt (eAnd (eA (bIsi ko ke) (aCons (eVar 0) (aCons (eC (.ty "tuple")) aNil))) (e2 dEq (eA bLen (aCons (eVar 0) aNil)) (eVar 1))))
theorem k_is_tuple (V : Vx P w K mg base T)  (i : ∀ ds Q Z, F_is_tuple ds Q Z → fnW 2 2 m_is_tuple ds Q Z) : FnD P w K mg base T 1 "is_tuple" (top 11) ["thing", "size"] F_is_tuple :=
  fnD_mk V.d_is_tuple sc_is_tuple (fun _ _ _ _ _ _ us hl => match us, hl with | [_, _], _ => rfl) (fun f cdv A outer s H E g B c => by
  unfold m_is_tuple
  refine dss_one ?_
  refine ds_rt ?_
  refine de_and ?_ ?_
  refine db_isi (bisi_ok V.ko V.ke) V.b_isinstance (by rfl) ?_
  refine da_cons ?_ ?_
  exact de_var (i := 0)
  refine da_cons ?_ ?_
  exact dv_ty V.b_tuple (by rfl) boot3
  exact da_nil
  refine de_one ?_
  refine dc_eq c ?_ ?_
  refine db_len V.b_len (by rfl) ?_
  refine da_cons ?_ ?_
  exact de_var (i := 0)
  exact da_nil
  exact de_var (i := 1)) i
theorem sc_need_between : FnScope ["number", "low", "high", "part"] ["number", "low", "high", "part"] (defScope (top 12)) := ⟨rfl, rfl, rfl, by decide +kernel, rfl, by decide +kernel, by decide +kernel⟩
def m_need_between : SM := (sIf (tNt (tTru (eF 3 F_is_between (aCons (eVar 0) (aCons (eVar 1) (aCons (eVar 2) aNil)))))) (sRz "BadNumber" "part" (eVar 3)) sNx)
theorem k_need_between (V : Vx P w K mg base T) (f_is_between : FnD P w K mg base T 2 "is_between" (top 10) ["thing", "low", "high"] F_is_between) (i : ∀ ds Q Z, F_need_between ds Q Z → fnW 4 4 m_need_between ds Q Z) : FnD P w K mg base T 3 "need_between" (top 12) ["number", "low", "high", "part"] F_need_between :=
  fnD_mk V.d_need_between sc_need_between (fun _ _ _ _ _ _ us hl => match us, hl with | [_, _, _, _], _ => rfl) (fun f cdv A outer s H E g B c => by
  unfold m_need_between
  refine dss_one ?_
  refine ds_if ?_ ?_ ?_
  refine dt_not ?_
  refine dt_tru ?_
  refine de_call f_is_between c (by decide) (by rfl) ?_
  refine da_cons ?_ ?_
  exact de_var (i := 0)
  refine da_cons ?_ ?_
  exact de_var (i := 1)
  refine da_cons ?_ ?_
  exact de_var (i := 2)
  exact da_nil
  refine dss_one ?_
  obtain ⟨_, h1, _, h2⟩ := V.c_BadNumber
  refine ds_rz c h2 h1 (by rfl) ?_
  exact de_var (i := 3)
  exact dss_nil) i
theorem sc_need_few : FnScope ["number", "most"] ["number", "most"] (defScope (top 13)) := ⟨rfl, rfl, rfl, by decide +kernel, rfl, by decide +kernel, by decide +kernel⟩
def m_need_few : SM := (sIf (tBo (e2 dGt (eVar 0) (eVar 1))) (sRz "TooMany" "most" (eVar 1)) sNx)
theorem k_need_few (V : Vx P w K mg base T)  (i : ∀ ds Q Z, F_need_few ds Q Z → fnW 2 2 m_need_few ds Q Z) : FnD P w K mg base T 2 "need_few" (top 13) ["number", "most"] F_need_few :=
  fnD_mk V.d_need_few sc_need_few (fun _ _ _ _ _ _ us hl => match us, hl with | [_, _], _ => rfl) (fun f cdv A outer s H E g B c => by
  unfold m_need_few
  refine dss_one ?_
  refine ds_if ?_ ?_ ?_
  refine dt_gt ?_ ?_
  exact de_var (i := 0)
  exact de_var (i := 1)
  refine dss_one ?_
  obtain ⟨_, h1, _, h2⟩ := V.c_TooMany
  refine ds_rz c h2 h1 (by rfl) ?_
  exact de_var (i := 1)
  exact dss_nil) i
theorem sc_need_letters : FnScope ["letters"] ["letters"] (defScope (top 18)) := ⟨rfl, rfl, rfl, by decide +kernel, rfl, by decide +kernel, by decide +kernel⟩
def m_need_letters : SM := (sDr (eF 4 F_need_between (aCons (eVar 0) (aCons (eC (.int 1)) (aCons (eC (.int v_MOST_LETTERS)) (aCons (eC (.str "letters")) aNil))))))
theorem k_need_letters (V : Vx P w K mg base T) (f_need_between : FnD P w K mg base T 3 "need_between" (top 12) ["number", "low", "high", "part"] F_need_between) (i : ∀ ds Q Z, F_need_letters ds Q Z → fnW 1 1 m_need_letters ds Q Z) : FnD P w K mg base T 4 "need_letters" (top 18) ["letters"] F_need_letters :=
  fnD_mk V.d_need_letters sc_need_letters (fun _ _ _ _ _ _ us hl => match us, hl with | [_], _ => rfl) (fun f cdv A outer s H E g B c => by
  unfold m_need_letters
  refine dss_one ?_
  refine ds_dr ?_
  refine de_call f_need_between c (by decide) (by rfl) ?_
  refine da_cons ?_ ?_
  exact de_var (i := 0)
  refine da_cons ?_ ?_
  exact de_int
  refine da_cons ?_ ?_
  exact de_gx V.g_MOST_LETTERS (by rfl)
  refine da_cons ?_ ?_
  exact de_str
  exact da_nil) i
theorem sc_is_monomial : FnScope ["letters", "thing", "most", "power"] ["letters", "thing", "most"] (defScope (top 19)) := ⟨rfl, rfl, rfl, by decide +kernel, rfl, by decide +kernel, by decide +kernel⟩
def m_is_monomial : SM := (sRt (eAnd (eF 2 F_is_tuple (aCons (eVar 1) (aCons (eVar 0) aNil))) (eA bAll (aCons (eLc [3] (tgN 3) (iOf (eVar 1)) tTrue (eF 3 F_is_between (aCons (eVar 3) (aCons (eC (.int 0)) (aCons (eVar 2) aNil))))) aNil))))
theorem k_is_monomial (V : Vx P w K mg base T) (f_is_between : FnD P w K mg base T 2 "is_between" (top 10) ["thing", "low", "high"] F_is_between) (f_is_tuple : FnD P w K mg base T 1 "is_tuple" (top 11) ["thing", "size"] F_is_tuple) (i : ∀ ds Q Z, F_is_monomial ds Q Z → fnW 4 3 m_is_monomial ds Q Z) : FnD P w K mg base T 3 "is_monomial" (top 19) ["letters", "thing", "most"] F_is_monomial :=
  fnD_mk V.d_is_monomial sc_is_monomial (fun _ _ _ _ _ _ us hl => match us, hl with | [_, _, _], _ => rfl) (fun f cdv A outer s H E g B c => by
  unfold m_is_monomial
  refine dss_one ?_
  refine ds_rt ?_
  refine de_and ?_ ?_
  refine de_call f_is_tuple c (by decide) (by rfl) ?_
  refine da_cons ?_ ?_
  exact de_var (i := 1)
  refine da_cons ?_ ?_
  exact de_var (i := 0)
  exact da_nil
  refine de_one ?_
  refine db_all c V.b_all (by rfl) ?_
  refine da_cons ?_ ?_
  refine de_lc c.calm sc_is_monomial.nd ?_ (blkOk_by (N := ["letters", "thing", "most", "power"]) (sc := (defScope (top 19))) (own := [("power", 3)]) (by decide +kernel)) (fun _ _ _ _ _ => (pg_name (i := 3) sc_is_monomial.nd rfl (.inl rfl))) (tgN_ok 3) (by decide) (fun _ _ _ _ _ _ => ?_) (fun _ _ _ _ _ _ => ?_)
  refine di_of ?_
  exact de_var (i := 1)
  exact dts_nil
  refine de_call f_is_between (c.blk _ _ _ _ _) (by decide) (by rfl) ?_
  refine da_cons ?_ ?_
  exact de_var (i := 3)
  refine da_cons ?_ ?_
  exact de_int
  refine da_cons ?_ ?_
  exact de_var (i := 2)
  exact da_nil
  exact da_nil) i
theorem sc_need_monomial : FnScope ["letters", "monomial", "most"] ["letters", "monomial", "most"] (defScope (top 20)) := ⟨rfl, rfl, rfl, by decide +kernel, rfl, by decide +kernel, by decide +kernel⟩
def m_need_monomial : SM := (sIf (tNt (tTru (eF 3 F_is_monomial (aCons (eVar 0) (aCons (eVar 1) (aCons (eVar 2) aNil)))))) (sR0 "BadMonomial") sNx)
theorem k_need_monomial (V : Vx P w K mg base T) (f_is_monomial : FnD P w K mg base T 3 "is_monomial" (top 19) ["letters", "thing", "most"] F_is_monomial) (i : ∀ ds Q Z, F_need_monomial ds Q Z → fnW 3 3 m_need_monomial ds Q Z) : FnD P w K mg base T 4 "need_monomial" (top 20) ["letters", "monomial", "most"] F_need_monomial :=
  fnD_mk V.d_need_monomial sc_need_monomial (fun _ _ _ _ _ _ us hl => match us, hl with | [_, _, _], _ => rfl) (fun f cdv A outer s H E g B c => by
  unfold m_need_monomial
  refine dss_one ?_
  refine ds_if ?_ ?_ ?_
  refine dt_not ?_
  refine dt_tru ?_
  refine de_call f_is_monomial c (by decide) (by rfl) ?_
  refine da_cons ?_ ?_
  exact de_var (i := 0)
  refine da_cons ?_ ?_
  exact de_var (i := 1)
  refine da_cons ?_ ?_
  exact de_var (i := 2)
  exact da_nil
  refine dss_one ?_
  exact ds_r00 V.r_BadMonomial c (by rfl)
  exact dss_nil) i
theorem sc_divides : FnScope ["one", "other", "power", "more"] ["one", "other"] (defScope (top 21)) := ⟨rfl, rfl, rfl, by decide +kernel, rfl, by decide +kernel, by decide +kernel⟩
def m_divides : SM := (sRt (eA bAll (aCons (eLc [2, 3] (tg2 2 3) (iZp (eVar 0) (eVar 1)) tTrue (e2 dLe (eVar 2) (eVar 3))) aNil)))
theorem k_divides (V : Vx P w K mg base T)  (i : ∀ ds Q Z, F_divides ds Q Z → fnW 4 2 m_divides ds Q Z) : FnD P w K mg base T 1 "divides" (top 21) ["one", "other"] F_divides :=
  fnD_mk V.d_divides sc_divides (fun _ _ _ _ _ _ us hl => match us, hl with | [_, _], _ => rfl) (fun f cdv A outer s H E g B c => by
  unfold m_divides
  refine dss_one ?_
  refine ds_rt ?_
  refine db_all c V.b_all (by rfl) ?_
  refine da_cons ?_ ?_
  refine de_lc c.calm sc_divides.nd ?_ (blkOk_by (N := ["one", "other", "power", "more"]) (sc := (defScope (top 21))) (own := [("power", 2), ("more", 3)]) (by decide +kernel)) (fun _ _ _ _ _ => (pg_tup (by exact c.calm) (pgs_cons (pg_name (i := 2) sc_divides.nd rfl (.inl rfl)) (pgs_cons (pg_name (i := 3) sc_divides.nd rfl (.inl rfl)) pgs_nil)))) (tg2_ok 2 3) (by decide) (fun _ _ _ _ _ _ => ?_) (fun _ _ _ _ _ _ => ?_)
  refine di_zp (by rfl) V.b_zip ?_ ?_
  exact de_var (i := 0)
  exact de_var (i := 1)
  exact dts_nil
  refine dc_le ?_ ?_
  exact de_var (i := 2)
  exact de_var (i := 3)
  exact da_nil) i
theorem sc_multiple_of : FnScope ["one", "other", "power", "more"] ["one", "other"] (defScope (top 22)) := ⟨rfl, rfl, rfl, by decide +kernel, rfl, by decide +kernel, by decide +kernel⟩
def m_multiple_of : SM := (sRt (eA bTup (aCons (eLc [2, 3] (tg2 2 3) (iZp (eVar 0) (eVar 1)) tTrue (eA bMax2 (aCons (eVar 2) (aCons (eVar 3) aNil)))) aNil)))
theorem k_multiple_of (V : Vx P w K mg base T)  (i : ∀ ds Q Z, F_multiple_of ds Q Z → fnW 4 2 m_multiple_of ds Q Z) : FnD P w K mg base T 1 "multiple_of" (top 22) ["one", "other"] F_multiple_of :=
  fnD_mk V.d_multiple_of sc_multiple_of (fun _ _ _ _ _ _ us hl => match us, hl with | [_, _], _ => rfl) (fun f cdv A outer s H E g B c => by
  unfold m_multiple_of
  refine dss_one ?_
  refine ds_rt ?_
  refine db_tuple V.b_tuple (by rfl) ?_
  refine da_cons ?_ ?_
  refine de_lc c.calm sc_multiple_of.nd ?_ (blkOk_by (N := ["one", "other", "power", "more"]) (sc := (defScope (top 22))) (own := [("power", 2), ("more", 3)]) (by decide +kernel)) (fun _ _ _ _ _ => (pg_tup (by exact c.calm) (pgs_cons (pg_name (i := 2) sc_multiple_of.nd rfl (.inl rfl)) (pgs_cons (pg_name (i := 3) sc_multiple_of.nd rfl (.inl rfl)) pgs_nil)))) (tg2_ok 2 3) (by decide) (fun _ _ _ _ _ _ => ?_) (fun _ _ _ _ _ _ => ?_)
  refine di_zp (by rfl) V.b_zip ?_ ?_
  exact de_var (i := 0)
  exact de_var (i := 1)
  exact dts_nil
  refine db_max (c.blk _ _ _ _ _) V.b_max (by rfl) ?_
  refine da_cons ?_ ?_
  exact de_var (i := 2)
  refine da_cons ?_ ?_
  exact de_var (i := 3)
  exact da_nil
  exact da_nil) i
theorem sc_least_of : FnScope ["monomials", "some", "found", "monomial", "other"] ["monomials"] (defScope (top 23)) := ⟨rfl, rfl, rfl, by decide +kernel, rfl, by decide +kernel, by decide +kernel⟩
def m_least_of : SM := (sSq (sPq 1 2 (eSst (eVar 0)))
  (sSq (sFor (tgN 3) [3, 4] (iOf (eVar 1)) (sIf (tNt (tTru (eA bAny (aCons (eLc [4] (tgN 4) (iOf (eVar 1)) tTrue (eAnd (e2 dNe (eVar 4) (eVar 3)) (eF 2 F_divides (aCons (eVar 4) (aCons (eVar 3) aNil))))) aNil)))) (sApp 2 (eVar 3)) sNx))
  (sFz 2 (sRt (eA bTup (aCons (eVar 2) aNil))))))
theorem k_least_of (V : Vx P w K mg base T) (f_divides : FnD P w K mg base T 1 "divides" (top 21) ["one", "other"] F_divides) (i : ∀ ds Q Z, F_least_of ds Q Z → fnW 5 1 m_least_of ds Q Z) : FnD P w K mg base T 2 "least_of" (top 23) ["monomials"] F_least_of :=
  fnD_mk V.d_least_of sc_least_of (fun _ _ _ _ _ _ us hl => match us, hl with | [_], _ => rfl) (fun f cdv A outer s H E g B c => by
  unfold m_least_of
  refine dss_cons ?_ ?_
  refine ds_pq (i := 1) (j := 2) c.calm sc_least_of.nd ?_
  refine de_sset c V.b_sorted (by rfl) V.b_set (by rfl) ?_
  exact de_var (i := 0)
  refine dss_cons ?_ ?_
  refine ds_for (kl := [3, 4]) (passes_of rfl) c.calm ?_ (pg_name (i := 3) sc_least_of.nd rfl (.inr rfl)) (tgN_ok 3) ?_
  refine di_of ?_
  exact de_var (i := 1)
  refine dss_one ?_
  refine ds_if ?_ ?_ ?_
  refine dt_not ?_
  refine dt_tru ?_
  refine db_any c V.b_any (by rfl) ?_
  refine da_cons ?_ ?_
  refine de_lc c.calm sc_least_of.nd ?_ (blkOk_by (N := ["monomials", "some", "found", "monomial", "other"]) (sc := (defScope (top 23))) (own := [("other", 4)]) (by decide +kernel)) (fun _ _ _ _ _ => (pg_name (i := 4) sc_least_of.nd rfl (.inl rfl))) (tgN_ok 4) (by decide) (fun _ _ _ _ _ _ => ?_) (fun _ _ _ _ _ _ => ?_)
  refine di_of ?_
  exact de_var (i := 1)
  exact dts_nil
  refine de_and ?_ ?_
  refine dc_ne (c.blk _ _ _ _ _) ?_ ?_
  exact de_var (i := 4)
  exact de_var (i := 3)
  refine de_one ?_
  refine de_call f_divides (c.blk _ _ _ _ _) (by decide) (by rfl) ?_
  refine da_cons ?_ ?_
  exact de_var (i := 4)
  refine da_cons ?_ ?_
  exact de_var (i := 3)
  exact da_nil
  exact da_nil
  refine dss_one ?_
  refine ds_app (i := 2) ?_ (hp := fun h1 h2 => pe_bm PySem.F.plainAttrs_list PySem.F.slot_list_append PySem.F.type_list_append mt_append h1 h2)
  exact de_var (i := 3)
  exact dss_nil
  refine dss_fz (i := 2) ?_
  refine dss_one ?_
  refine ds_rt ?_
  refine db_tuple V.b_tuple (by rfl) ?_
  refine da_cons ?_ ?_
  exact de_var (i := 2)
  exact da_nil) i
theorem sc_is_stairs_told : FnScope ["letters", "thing", "monomial"] ["letters", "thing"] (defScope (top 24)) := ⟨rfl, rfl, rfl, by decide +kernel, rfl, by decide +kernel, by decide +kernel⟩
def m_is_stairs_told : SM := (sSq (sIf (tOo (tNt (tTru (eA (bIsi ko ke) (aCons (eVar 1) (aCons (eC (.ty "tuple")) aNil))))) (tNt (tBo (eCh dLe dLe (eC (.int 1)) (eA bLen (aCons (eVar 1) aNil)) (eC (.int v_MOST_STAIRS)))))) (sRt (eC (.bl false))) sNx)
  (sRt (eAnd (eA bAll (aCons (eLc [2] (tgN 2) (iOf (eVar 1)) tTrue (eF 3 F_is_monomial (aCons (eVar 0) (aCons (eVar 2) (aCons (eC (.int v_MOST_POWER)) aNil))))) aNil)) (e2 dEq (eF 1 F_least_of (aCons (eVar 1) aNil)) (eVar 1)))))
theorem k_is_stairs_told (V : Vx P w K mg base T) (f_is_monomial : FnD P w K mg base T 3 "is_monomial" (top 19) ["letters", "thing", "most"] F_is_monomial) (f_least_of : FnD P w K mg base T 2 "least_of" (top 23) ["monomials"] F_least_of) (i : ∀ ds Q Z, F_is_stairs_told ds Q Z → fnW 3 2 m_is_stairs_told ds Q Z) : FnD P w K mg base T 4 "is_stairs_told" (top 24) ["letters", "thing"] F_is_stairs_told :=
  fnD_mk V.d_is_stairs_told sc_is_stairs_told (fun _ _ _ _ _ _ us hl => match us, hl with | [_, _], _ => rfl) (fun f cdv A outer s H E g B c => by
  unfold m_is_stairs_told
  refine dss_cons ?_ ?_
  refine ds_if ?_ ?_ ?_
  refine dw_t ?_
  refine dw_or ?_ ?_
  refine dt_not ?_
  refine dt_tru ?_
  refine db_isi (bisi_ok V.ko V.ke) V.b_isinstance (by rfl) ?_
  refine da_cons ?_ ?_
  exact de_var (i := 1)
  refine da_cons ?_ ?_
  exact dv_ty V.b_tuple (by rfl) boot3
  exact da_nil
  refine dw_or1 ?_
  refine dt_not ?_
  refine dt_ch op_le op_le dle_ok dle_ok ?_ ?_ ?_
  exact de_int
  refine db_len V.b_len (by rfl) ?_
  refine da_cons ?_ ?_
  exact de_var (i := 1)
  exact da_nil
  exact de_gx V.g_MOST_STAIRS (by rfl)
  refine dss_one ?_
  refine ds_rt ?_
  exact de_bl
  exact dss_nil
  refine dss_one ?_
  refine ds_rt ?_
  refine de_and ?_ ?_
  refine db_all c V.b_all (by rfl) ?_
  refine da_cons ?_ ?_
  refine de_lc c.calm sc_is_stairs_told.nd ?_ (blkOk_by (N := ["letters", "thing", "monomial"]) (sc := (defScope (top 24))) (own := [("monomial", 2)]) (by decide +kernel)) (fun _ _ _ _ _ => (pg_name (i := 2) sc_is_stairs_told.nd rfl (.inl rfl))) (tgN_ok 2) (by decide) (fun _ _ _ _ _ _ => ?_) (fun _ _ _ _ _ _ => ?_)
  refine di_of ?_
  exact de_var (i := 1)
  exact dts_nil
  refine de_call f_is_monomial (c.blk _ _ _ _ _) (by decide) (by rfl) ?_
  refine da_cons ?_ ?_
  exact de_var (i := 0)
  refine da_cons ?_ ?_
  exact de_var (i := 2)
  refine da_cons ?_ ?_
  exact de_gx V.g_MOST_POWER (by rfl)
  exact da_nil
  exact da_nil
  refine de_one ?_
  refine dc_eq c ?_ ?_
  refine de_call f_least_of c (by decide) (by rfl) ?_
  refine da_cons ?_ ?_
  exact de_var (i := 1)
  exact da_nil
  exact de_var (i := 1)) i
theorem sc_need_stairs : FnScope ["letters", "stairs"] ["letters", "stairs"] (defScope (top 25)) := ⟨rfl, rfl, rfl, by decide +kernel, rfl, by decide +kernel, by decide +kernel⟩
def m_need_stairs : SM := (sIf (tNt (tTru (eF 2 F_is_stairs_told (aCons (eVar 0) (aCons (eVar 1) aNil))))) (sR0 "BadStairs") sNx)
theorem k_need_stairs (V : Vx P w K mg base T) (f_is_stairs_told : FnD P w K mg base T 4 "is_stairs_told" (top 24) ["letters", "thing"] F_is_stairs_told) (i : ∀ ds Q Z, F_need_stairs ds Q Z → fnW 2 2 m_need_stairs ds Q Z) : FnD P w K mg base T 5 "need_stairs" (top 25) ["letters", "stairs"] F_need_stairs :=
  fnD_mk V.d_need_stairs sc_need_stairs (fun _ _ _ _ _ _ us hl => match us, hl with | [_, _], _ => rfl) (fun f cdv A outer s H E g B c => by
  unfold m_need_stairs
  refine dss_one ?_
  refine ds_if ?_ ?_ ?_
  refine dt_not ?_
  refine dt_tru ?_
  refine de_call f_is_stairs_told c (by decide) (by rfl) ?_
  refine da_cons ?_ ?_
  exact de_var (i := 0)
  refine da_cons ?_ ?_
  exact de_var (i := 1)
  exact da_nil
  refine dss_one ?_
  exact ds_r00 V.r_BadStairs c (by rfl)
  exact dss_nil) i
theorem sc_made_stairs : FnScope ["monomials", "found", "monomial"] ["monomials"] (defScope (top 26)) := ⟨rfl, rfl, rfl, by decide +kernel, rfl, by decide +kernel, by decide +kernel⟩
def m_made_stairs : SM := (sSq (sSet 1 (eF 1 F_least_of (aCons (eVar 0) aNil)))
  (sSq (sIf (tTru (eA bAny (aCons (eLc [2] (tgN 2) (iOf (eVar 1)) tTrue (e2 dGt (eA bMaxT (aCons (eVar 2) aNil)) (eC (.int v_MOST_POWER)))) aNil))) (sR0 "BadMonomial") sNx)
  (sSq (sDr (eF 2 F_need_few (aCons (eA bLen (aCons (eVar 1) aNil)) (aCons (eC (.int v_MOST_STAIRS)) aNil))))
  (sRt (eVar 1)))))
theorem k_made_stairs (V : Vx P w K mg base T) (f_need_few : FnD P w K mg base T 2 "need_few" (top 13) ["number", "most"] F_need_few) (f_least_of : FnD P w K mg base T 2 "least_of" (top 23) ["monomials"] F_least_of) (i : ∀ ds Q Z, F_made_stairs ds Q Z → fnW 3 1 m_made_stairs ds Q Z) : FnD P w K mg base T 3 "made_stairs" (top 26) ["monomials"] F_made_stairs :=
  fnD_mk V.d_made_stairs sc_made_stairs (fun _ _ _ _ _ _ us hl => match us, hl with | [_], _ => rfl) (fun f cdv A outer s H E g B c => by
  unfold m_made_stairs
  refine dss_cons ?_ ?_
  refine ds_set (i := 1) sc_made_stairs.nd ?_
  refine de_call f_least_of c (by decide) (by rfl) ?_
  refine da_cons ?_ ?_
  exact de_var (i := 0)
  exact da_nil
  refine dss_cons ?_ ?_
  refine ds_if ?_ ?_ ?_
  refine dt_tru ?_
  refine db_any c V.b_any (by rfl) ?_
  refine da_cons ?_ ?_
  refine de_lc c.calm sc_made_stairs.nd ?_ (blkOk_by (N := ["monomials", "found", "monomial"]) (sc := (defScope (top 26))) (own := [("monomial", 2)]) (by decide +kernel)) (fun _ _ _ _ _ => (pg_name (i := 2) sc_made_stairs.nd rfl (.inl rfl))) (tgN_ok 2) (by decide) (fun _ _ _ _ _ _ => ?_) (fun _ _ _ _ _ _ => ?_)
  refine di_of ?_
  exact de_var (i := 1)
  exact dts_nil
  refine dc_gt ?_ ?_
  refine db_maxT (c.blk _ _ _ _ _) V.b_max (by rfl) ?_
  refine da_cons ?_ ?_
  exact de_var (i := 2)
  exact da_nil
  exact de_gx V.g_MOST_POWER (by rfl)
  exact da_nil
  refine dss_one ?_
  exact ds_r00 V.r_BadMonomial c (by rfl)
  exact dss_nil
  refine dss_cons ?_ ?_
  refine ds_dr ?_
  refine de_call f_need_few c (by decide) (by rfl) ?_
  refine da_cons ?_ ?_
  refine db_len V.b_len (by rfl) ?_
  refine da_cons ?_ ?_
  exact de_var (i := 1)
  exact da_nil
  refine da_cons ?_ ?_
  exact de_gx V.g_MOST_STAIRS (by rfl)
  exact da_nil
  refine dss_one ?_
  refine ds_rt ?_
  exact de_var (i := 1)) i
theorem sc_need_two : FnScope ["letters", "one", "other"] ["letters", "one", "other"] (defScope (top 28)) := ⟨rfl, rfl, rfl, by decide +kernel, rfl, by decide +kernel, by decide +kernel⟩
def m_need_two : SM := (sSq (sDr (eF 1 F_need_letters (aCons (eVar 0) aNil)))
  (sSq (sDr (eF 2 F_need_stairs (aCons (eVar 0) (aCons (eVar 1) aNil))))
  (sDr (eF 2 F_need_stairs (aCons (eVar 0) (aCons (eVar 2) aNil))))))
theorem k_need_two (V : Vx P w K mg base T) (f_need_letters : FnD P w K mg base T 4 "need_letters" (top 18) ["letters"] F_need_letters) (f_need_stairs : FnD P w K mg base T 5 "need_stairs" (top 25) ["letters", "stairs"] F_need_stairs) (i : ∀ ds Q Z, F_need_two ds Q Z → fnW 3 3 m_need_two ds Q Z) : FnD P w K mg base T 6 "need_two" (top 28) ["letters", "one", "other"] F_need_two :=
  fnD_mk V.d_need_two sc_need_two (fun _ _ _ _ _ _ us hl => match us, hl with | [_, _, _], _ => rfl) (fun f cdv A outer s H E g B c => by
  unfold m_need_two
  refine dss_cons ?_ ?_
  refine ds_dr ?_
  refine de_call f_need_letters c (by decide) (by rfl) ?_
  refine da_cons ?_ ?_
  exact de_var (i := 0)
  exact da_nil
  refine dss_cons ?_ ?_
  refine ds_dr ?_
  refine de_call f_need_stairs c (by decide) (by rfl) ?_
  refine da_cons ?_ ?_
  exact de_var (i := 0)
  refine da_cons ?_ ?_
  exact de_var (i := 1)
  exact da_nil
  refine dss_one ?_
  refine ds_dr ?_
  refine de_call f_need_stairs c (by decide) (by rfl) ?_
  refine da_cons ?_ ?_
  exact de_var (i := 0)
  refine da_cons ?_ ?_
  exact de_var (i := 2)
  exact da_nil) i
theorem sc_pairs_of : FnScope ["one", "other", "found", "first", "second"] ["one", "other"] (defScope (top 29)) := ⟨rfl, rfl, rfl, by decide +kernel, rfl, by decide +kernel, by decide +kernel⟩
def m_pairs_of : SM := (sSq (sNil 2)
  (sSq (sFor (tgN 3) [3, 4] (iOf (eVar 0)) (sExt 2 (eLc [4] (tgN 4) (iOf (eVar 1)) tTrue (eTup (aCons (eVar 3) (aCons (eVar 4) aNil))))))
  (sFz 2 (sRt (eVar 2)))))
theorem k_pairs_of (V : Vx P w K mg base T)  (i : ∀ ds Q Z, F_pairs_of ds Q Z → fnW 5 2 m_pairs_of ds Q Z) : FnD P w K mg base T 1 "pairs_of" (top 29) ["one", "other"] F_pairs_of :=
  fnD_mk V.d_pairs_of sc_pairs_of (fun _ _ _ _ _ _ us hl => match us, hl with | [_, _], _ => rfl) (fun f cdv A outer s H E g B c => by
  unfold m_pairs_of
  refine dss_cons ?_ ?_
  exact ds_nil (i := 2) sc_pairs_of.nd
  refine dss_cons ?_ ?_
  refine ds_for (kl := [3, 4]) (passes_of rfl) c.calm ?_ (pg_name (i := 3) sc_pairs_of.nd rfl (.inr rfl)) (tgN_ok 3) ?_
  refine di_of ?_
  exact de_var (i := 0)
  refine dss_one ?_
  refine ds_ext (i := 2) ?_ (hp := fun h1 h2 => pe_bm PySem.F.plainAttrs_list PySem.F.slot_list_extend PySem.F.type_list_extend mt_extend h1 h2)
  refine de_lc c.calm sc_pairs_of.nd ?_ (blkOk_by (N := ["one", "other", "found", "first", "second"]) (sc := (defScope (top 29))) (own := [("second", 4)]) (by decide +kernel)) (fun _ _ _ _ _ => (pg_name (i := 4) sc_pairs_of.nd rfl (.inl rfl))) (tgN_ok 4) (by decide) (fun _ _ _ _ _ _ => ?_) (fun _ _ _ _ _ _ => ?_)
  refine di_of ?_
  exact de_var (i := 1)
  exact dts_nil
  refine de_tup ?_
  refine da_cons ?_ ?_
  exact de_var (i := 3)
  refine da_cons ?_ ?_
  exact de_var (i := 4)
  exact da_nil
  refine dss_fz (i := 2) ?_
  refine dss_one ?_
  refine ds_rt ?_
  exact de_var (i := 2)) i
theorem sc_met_monomials : FnScope ["one", "other", "first", "second"] ["one", "other"] (defScope (top 30)) := ⟨rfl, rfl, rfl, by decide +kernel, rfl, by decide +kernel, by decide +kernel⟩
def m_met_monomials : SM := (sRt (eF 1 F_least_of (aCons (eLc [2, 3] (tg2 2 3) (iOf (eF 2 F_pairs_of (aCons (eVar 0) (aCons (eVar 1) aNil)))) tTrue (eF 2 F_multiple_of (aCons (eVar 2) (aCons (eVar 3) aNil)))) aNil)))
theorem k_met_monomials (V : Vx P w K mg base T) (f_multiple_of : FnD P w K mg base T 1 "multiple_of" (top 22) ["one", "other"] F_multiple_of) (f_least_of : FnD P w K mg base T 2 "least_of" (top 23) ["monomials"] F_least_of) (f_pairs_of : FnD P w K mg base T 1 "pairs_of" (top 29) ["one", "other"] F_pairs_of) (i : ∀ ds Q Z, F_met_monomials ds Q Z → fnW 4 2 m_met_monomials ds Q Z) : FnD P w K mg base T 3 "met_monomials" (top 30) ["one", "other"] F_met_monomials :=
  fnD_mk V.d_met_monomials sc_met_monomials (fun _ _ _ _ _ _ us hl => match us, hl with | [_, _], _ => rfl) (fun f cdv A outer s H E g B c => by
  unfold m_met_monomials
  refine dss_one ?_
  refine ds_rt ?_
  refine de_call f_least_of c (by decide) (by rfl) ?_
  refine da_cons ?_ ?_
  refine de_lc c.calm sc_met_monomials.nd ?_ (blkOk_by (N := ["one", "other", "first", "second"]) (sc := (defScope (top 30))) (own := [("first", 2), ("second", 3)]) (by decide +kernel)) (fun _ _ _ _ _ => (pg_tup (by exact c.calm) (pgs_cons (pg_name (i := 2) sc_met_monomials.nd rfl (.inl rfl)) (pgs_cons (pg_name (i := 3) sc_met_monomials.nd rfl (.inl rfl)) pgs_nil)))) (tg2_ok 2 3) (by decide) (fun _ _ _ _ _ _ => ?_) (fun _ _ _ _ _ _ => ?_)
  refine di_of ?_
  refine de_call f_pairs_of c (by decide) (by rfl) ?_
  refine da_cons ?_ ?_
  exact de_var (i := 0)
  refine da_cons ?_ ?_
  exact de_var (i := 1)
  exact da_nil
  exact dts_nil
  refine de_call f_multiple_of (c.blk _ _ _ _ _) (by decide) (by rfl) ?_
  refine da_cons ?_ ?_
  exact de_var (i := 2)
  refine da_cons ?_ ?_
  exact de_var (i := 3)
  exact da_nil
  exact da_nil) i
theorem sc_stairs_sum : FnScope ["letters", "one", "other"] ["letters", "one", "other"] (defScope (top 31)) := ⟨rfl, rfl, rfl, by decide +kernel, rfl, by decide +kernel, by decide +kernel⟩
def m_stairs_sum : SM := (sSq (sDr (eF 3 F_need_two (aCons (eVar 0) (aCons (eVar 1) (aCons (eVar 2) aNil)))))
  (sRt (eF 1 F_made_stairs (aCons (e2 dAdd (eVar 1) (eVar 2)) aNil))))
theorem k_stairs_sum (V : Vx P w K mg base T) (f_made_stairs : FnD P w K mg base T 3 "made_stairs" (top 26) ["monomials"] F_made_stairs) (f_need_two : FnD P w K mg base T 6 "need_two" (top 28) ["letters", "one", "other"] F_need_two) (i : ∀ ds Q Z, F_stairs_sum ds Q Z → fnW 3 3 m_stairs_sum ds Q Z) : FnD P w K mg base T 7 "stairs_sum" (top 31) ["letters", "one", "other"] F_stairs_sum :=
  fnD_mk V.d_stairs_sum sc_stairs_sum (fun _ _ _ _ _ _ us hl => match us, hl with | [_, _, _], _ => rfl) (fun f cdv A outer s H E g B c => by
  unfold m_stairs_sum
  refine dss_cons ?_ ?_
  refine ds_dr ?_
  refine de_call f_need_two c (by decide) (by rfl) ?_
  refine da_cons ?_ ?_
  exact de_var (i := 0)
  refine da_cons ?_ ?_
  exact de_var (i := 1)
  refine da_cons ?_ ?_
  exact de_var (i := 2)
  exact da_nil
  refine dss_one ?_
  refine ds_rt ?_
  refine de_call f_made_stairs c (by decide) (by rfl) ?_
  refine da_cons ?_ ?_
  refine de_add ?_ ?_
  exact de_var (i := 1)
  exact de_var (i := 2)
  exact da_nil) i
theorem sc_stairs_both : FnScope ["letters", "one", "other"] ["letters", "one", "other"] (defScope (top 32)) := ⟨rfl, rfl, rfl, by decide +kernel, rfl, by decide +kernel, by decide +kernel⟩
def m_stairs_both : SM := (sSq (sDr (eF 3 F_need_two (aCons (eVar 0) (aCons (eVar 1) (aCons (eVar 2) aNil)))))
  (sRt (eF 1 F_made_stairs (aCons (eF 2 F_met_monomials (aCons (eVar 1) (aCons (eVar 2) aNil))) aNil))))
theorem k_stairs_both (V : Vx P w K mg base T) (f_made_stairs : FnD P w K mg base T 3 "made_stairs" (top 26) ["monomials"] F_made_stairs) (f_need_two : FnD P w K mg base T 6 "need_two" (top 28) ["letters", "one", "other"] F_need_two) (f_met_monomials : FnD P w K mg base T 3 "met_monomials" (top 30) ["one", "other"] F_met_monomials) (i : ∀ ds Q Z, F_stairs_both ds Q Z → fnW 3 3 m_stairs_both ds Q Z) : FnD P w K mg base T 7 "stairs_both" (top 32) ["letters", "one", "other"] F_stairs_both :=
  fnD_mk V.d_stairs_both sc_stairs_both (fun _ _ _ _ _ _ us hl => match us, hl with | [_, _, _], _ => rfl) (fun f cdv A outer s H E g B c => by
  unfold m_stairs_both
  refine dss_cons ?_ ?_
  refine ds_dr ?_
  refine de_call f_need_two c (by decide) (by rfl) ?_
  refine da_cons ?_ ?_
  exact de_var (i := 0)
  refine da_cons ?_ ?_
  exact de_var (i := 1)
  refine da_cons ?_ ?_
  exact de_var (i := 2)
  exact da_nil
  refine dss_one ?_
  refine ds_rt ?_
  refine de_call f_made_stairs c (by decide) (by rfl) ?_
  refine da_cons ?_ ?_
  refine de_call f_met_monomials c (by decide) (by rfl) ?_
  refine da_cons ?_ ?_
  exact de_var (i := 1)
  refine da_cons ?_ ?_
  exact de_var (i := 2)
  exact da_nil
  exact da_nil) i
theorem sc_stairs_times : FnScope ["letters", "one", "other", "found", "first", "second", "power", "more"] ["letters", "one", "other"] (defScope (top 33)) := ⟨rfl, rfl, rfl, by decide +kernel, rfl, by decide +kernel, by decide +kernel⟩
def m_stairs_times : SM := (sSq (sDr (eF 3 F_need_two (aCons (eVar 0) (aCons (eVar 1) (aCons (eVar 2) aNil)))))
  (sSq (sNil 3)
  (sSq (sFor (tg2 4 5) [4, 5, 6, 7] (iOf (eF 2 F_pairs_of (aCons (eVar 1) (aCons (eVar 2) aNil)))) (sApp 3 (eA bTup (aCons (eLc [6, 7] (tg2 6 7) (iZp (eVar 4) (eVar 5)) tTrue (e2 dAdd (eVar 6) (eVar 7))) aNil))))
  (sFz 3 (sRt (eF 1 F_made_stairs (aCons (eVar 3) aNil)))))))
theorem k_stairs_times (V : Vx P w K mg base T) (f_made_stairs : FnD P w K mg base T 3 "made_stairs" (top 26) ["monomials"] F_made_stairs) (f_need_two : FnD P w K mg base T 6 "need_two" (top 28) ["letters", "one", "other"] F_need_two) (f_pairs_of : FnD P w K mg base T 1 "pairs_of" (top 29) ["one", "other"] F_pairs_of) (i : ∀ ds Q Z, F_stairs_times ds Q Z → fnW 8 3 m_stairs_times ds Q Z) : FnD P w K mg base T 7 "stairs_times" (top 33) ["letters", "one", "other"] F_stairs_times :=
  fnD_mk V.d_stairs_times sc_stairs_times (fun _ _ _ _ _ _ us hl => match us, hl with | [_, _, _], _ => rfl) (fun f cdv A outer s H E g B c => by
  unfold m_stairs_times
  refine dss_cons ?_ ?_
  refine ds_dr ?_
  refine de_call f_need_two c (by decide) (by rfl) ?_
  refine da_cons ?_ ?_
  exact de_var (i := 0)
  refine da_cons ?_ ?_
  exact de_var (i := 1)
  refine da_cons ?_ ?_
  exact de_var (i := 2)
  exact da_nil
  refine dss_cons ?_ ?_
  exact ds_nil (i := 3) sc_stairs_times.nd
  refine dss_cons ?_ ?_
  refine ds_for (kl := [4, 5, 6, 7]) (passes_of rfl) c.calm ?_ (pg_tup (by exact c.calm) (pgs_cons (pg_name (i := 4) sc_stairs_times.nd rfl (.inl rfl)) (pgs_cons (pg_name (i := 5) sc_stairs_times.nd rfl (.inl rfl)) pgs_nil))) (tg2_ok 4 5) ?_
  refine di_of ?_
  refine de_call f_pairs_of c (by decide) (by rfl) ?_
  refine da_cons ?_ ?_
  exact de_var (i := 1)
  refine da_cons ?_ ?_
  exact de_var (i := 2)
  exact da_nil
  refine dss_one ?_
  refine ds_app (i := 3) ?_ (hp := fun h1 h2 => pe_bm PySem.F.plainAttrs_list PySem.F.slot_list_append PySem.F.type_list_append mt_append h1 h2)
  refine db_tuple V.b_tuple (by rfl) ?_
  refine da_cons ?_ ?_
  refine de_lc c.calm sc_stairs_times.nd ?_ (blkOk_by (N := ["letters", "one", "other", "found", "first", "second", "power", "more"]) (sc := (defScope (top 33))) (own := [("power", 6), ("more", 7)]) (by decide +kernel)) (fun _ _ _ _ _ => (pg_tup (by exact c.calm) (pgs_cons (pg_name (i := 6) sc_stairs_times.nd rfl (.inl rfl)) (pgs_cons (pg_name (i := 7) sc_stairs_times.nd rfl (.inl rfl)) pgs_nil)))) (tg2_ok 6 7) (by decide) (fun _ _ _ _ _ _ => ?_) (fun _ _ _ _ _ _ => ?_)
  refine di_zp (by rfl) V.b_zip ?_ ?_
  exact de_var (i := 4)
  exact de_var (i := 5)
  exact dts_nil
  refine de_add ?_ ?_
  exact de_var (i := 6)
  exact de_var (i := 7)
  exact da_nil
  refine dss_fz (i := 3) ?_
  refine dss_one ?_
  refine ds_rt ?_
  refine de_call f_made_stairs c (by decide) (by rfl) ?_
  refine da_cons ?_ ?_
  exact de_var (i := 3)
  exact da_nil) i
theorem sc_stairs_over : FnScope ["letters", "stairs", "monomial", "step", "power", "less"] ["letters", "stairs", "monomial"] (defScope (top 34)) := ⟨rfl, rfl, rfl, by decide +kernel, rfl, by decide +kernel, by decide +kernel⟩
def m_stairs_over : SM := (sSq (sDr (eF 1 F_need_letters (aCons (eVar 0) aNil)))
  (sSq (sDr (eF 2 F_need_stairs (aCons (eVar 0) (aCons (eVar 1) aNil))))
  (sSq (sDr (eF 3 F_need_monomial (aCons (eVar 0) (aCons (eVar 2) (aCons (eC (.int v_MOST_POWER)) aNil)))))
  (sRt (eF 1 F_made_stairs (aCons (eLc [3] (tgN 3) (iOf (eVar 1)) tTrue (eA bTup (aCons (eLc [4, 5] (tg2 4 5) (iZp (eVar 3) (eVar 2)) tTrue (eA bMax2 (aCons (eC (.int 0)) (aCons (e2 dSub (eVar 4) (eVar 5)) aNil)))) aNil))) aNil))))))
theorem k_stairs_over (V : Vx P w K mg base T) (f_need_letters : FnD P w K mg base T 4 "need_letters" (top 18) ["letters"] F_need_letters) (f_need_monomial : FnD P w K mg base T 4 "need_monomial" (top 20) ["letters", "monomial", "most"] F_need_monomial) (f_need_stairs : FnD P w K mg base T 5 "need_stairs" (top 25) ["letters", "stairs"] F_need_stairs) (f_made_stairs : FnD P w K mg base T 3 "made_stairs" (top 26) ["monomials"] F_made_stairs) (i : ∀ ds Q Z, F_stairs_over ds Q Z → fnW 6 3 m_stairs_over ds Q Z) : FnD P w K mg base T 6 "stairs_over" (top 34) ["letters", "stairs", "monomial"] F_stairs_over :=
  fnD_mk V.d_stairs_over sc_stairs_over (fun _ _ _ _ _ _ us hl => match us, hl with | [_, _, _], _ => rfl) (fun f cdv A outer s H E g B c => by
  unfold m_stairs_over
  refine dss_cons ?_ ?_
  refine ds_dr ?_
  refine de_call f_need_letters c (by decide) (by rfl) ?_
  refine da_cons ?_ ?_
  exact de_var (i := 0)
  exact da_nil
  refine dss_cons ?_ ?_
  refine ds_dr ?_
  refine de_call f_need_stairs c (by decide) (by rfl) ?_
  refine da_cons ?_ ?_
  exact de_var (i := 0)
  refine da_cons ?_ ?_
  exact de_var (i := 1)
  exact da_nil
  refine dss_cons ?_ ?_
  refine ds_dr ?_
  refine de_call f_need_monomial c (by decide) (by rfl) ?_
  refine da_cons ?_ ?_
  exact de_var (i := 0)
  refine da_cons ?_ ?_
  exact de_var (i := 2)
  refine da_cons ?_ ?_
  exact de_gx V.g_MOST_POWER (by rfl)
  exact da_nil
  refine dss_one ?_
  refine ds_rt ?_
  refine de_call f_made_stairs c (by decide) (by rfl) ?_
  refine da_cons ?_ ?_
  refine de_lc c.calm sc_stairs_over.nd ?_ (blkOk_by (N := ["letters", "stairs", "monomial", "step", "power", "less"]) (sc := (defScope (top 34))) (own := [("step", 3)]) (by decide +kernel)) (fun _ _ _ _ _ => (pg_name (i := 3) sc_stairs_over.nd rfl (.inl rfl))) (tgN_ok 3) (by decide) (fun _ _ _ _ _ _ => ?_) (fun _ _ _ _ _ _ => ?_)
  refine di_of ?_
  exact de_var (i := 1)
  exact dts_nil
  refine de_with (c.blk _ _ _ _ _) fun c2 => ?_
  refine db_tuple V.b_tuple (by rfl) ?_
  refine da_cons ?_ ?_
  refine de_lc c2.calm sc_stairs_over.nd ?_ (blkOk_by (N := ["letters", "stairs", "monomial", "step", "power", "less"]) (sc := ({ kind := .function, names := [(".0", .local), ("step", .local), ("tuple", .globalImplicit), ("zip", .globalImplicit), ("monomial", .cell)], isGenerator := false, isCoroutine := false } : Scope)) (own := [("power", 4), ("less", 5)]) (by decide +kernel)) (fun _ _ _ _ _ => (pg_tup (by exact c.calm) (pgs_cons (pg_name (i := 4) sc_stairs_over.nd rfl (.inl rfl)) (pgs_cons (pg_name (i := 5) sc_stairs_over.nd rfl (.inl rfl)) pgs_nil)))) (tg2_ok 4 5) (by decide) (fun _ _ _ _ _ _ => ?_) (fun _ _ _ _ _ _ => ?_)
  refine di_zp (by rfl) V.b_zip ?_ ?_
  exact de_var (i := 3)
  exact de_var (i := 2)
  exact dts_nil
  refine db_max (c2.blk _ _ _ _ _) V.b_max (by rfl) ?_
  refine da_cons ?_ ?_
  exact de_int
  refine da_cons ?_ ?_
  refine de_sub ?_ ?_
  exact de_var (i := 4)
  exact de_var (i := 5)
  exact da_nil
  exact da_nil
  exact da_nil) i
theorem sc_law_begun : FnScope ["script", "large", "cell"] ["script"] (defScope (top 36)) := ⟨rfl, rfl, rfl, by decide +kernel, rfl, by decide +kernel, by decide +kernel⟩
theorem sc_law_mixed : FnScope ["draw", "turn", "found", "great", "blend", "cell"] ["draw"] (defScope (top 37)) := ⟨rfl, rfl, rfl, by decide +kernel, rfl, by decide +kernel, by decide +kernel⟩
def m_law_mixed : SM := (sSq (sDi 0 (e2 dAdd (eDi 0) (eC (.int 1))))
  (sSq (sPr [1, 2] (aCons (eA bInt2 (aCons (eDi 0) aNil)) (aCons (eC (.int 0)) aNil)))
  (sSq (sFor (tgN 3) [3, 4, 5] (iOf (eLst (aCons (eC (.int 2147483647)) (aCons (eC (.int 2147483629)) (aCons (eC (.int 2147483587)) aNil))))) (sSq (sSet 4 (e2 dMod (e2 dAdd (e2 dTim (eVar 1) (eC (.int 40503))) (e2 dDiv (eVar 3) (eC (.int 13)))) (eVar 3)))
  (sSq (sFor (tgN 5) [5] (iOf (eDc 0)) (sSet 4 (e2 dMod (e2 dAdd (e2 dAdd (e2 dTim (eVar 4) (eC (.int 69621))) (eA bInt2 (aCons (eVar 5) aNil))) (eVar 1)) (eVar 3))))
  (sSet 2 (e2 dAdd (e2 dTim (eVar 2) (eC (.int 2147483659))) (e2 dMod (e2 dPow (eVar 4) (eC (.int 5))) (eVar 3)))))))
  (sRt (eVar 2)))))
theorem k_law_mixed (V : Vx P w K mg base T)  (i : ∀ ds Q Z, F_law_mixed ds Q Z → fnW 6 1 m_law_mixed ds Q Z) : FnD P w K mg base T 1 "_law_mixed" (top 37) ["draw"] F_law_mixed :=
  fnD_mk V.d__law_mixed sc_law_mixed (fun _ _ _ _ _ _ us hl => match us, hl with | [_], _ => rfl) (fun f cdv A outer s H E g B c => by
  unfold m_law_mixed
  refine dss_cons ?_ ?_
  refine ds_dint (i := 0) (.inr rfl) c ?_
  refine de_add ?_ ?_
  exact de_dint (i := 0) (.inr rfl) c
  exact de_int
  refine dss_cons ?_ ?_
  refine ds_p2 (i := 1) (j := 2) c.calm sc_law_mixed.nd ?_
  refine da_cons ?_ ?_
  refine db_int V.b_int (by rfl) ?_
  refine da_cons ?_ ?_
  exact de_dint (i := 0) (.inr rfl) c
  exact da_nil
  refine da_cons ?_ ?_
  exact de_int
  exact da_nil
  refine dss_cons ?_ ?_
  refine ds_for (kl := [3, 4, 5]) (passes_of rfl) c.calm ?_ (pg_name (i := 3) sc_law_mixed.nd rfl (.inl rfl)) (tgN_ok 3) ?_
  refine di_of ?_
  refine de_lst ?_
  refine da_cons ?_ ?_
  exact de_int
  refine da_cons ?_ ?_
  exact de_int
  refine da_cons ?_ ?_
  exact de_int
  exact da_nil
  refine dss_cons ?_ ?_
  refine ds_set (i := 4) sc_law_mixed.nd ?_
  refine de_mod ?_ ?_
  refine de_add ?_ ?_
  refine de_tim ?_ ?_
  exact de_var (i := 1)
  exact de_int
  refine de_div ?_ ?_
  exact de_var (i := 3)
  exact de_int
  exact de_var (i := 3)
  refine dss_cons ?_ ?_
  refine ds_for (kl := [5]) (passes_of rfl) c.calm ?_ (pg_name (i := 5) sc_law_mixed.nd rfl (.inl rfl)) (tgN_ok 5) ?_
  refine di_of ?_
  exact de_dcells (i := 0) c
  refine dss_one ?_
  refine ds_set (i := 4) sc_law_mixed.nd ?_
  refine de_mod ?_ ?_
  refine de_add ?_ ?_
  refine de_add ?_ ?_
  refine de_tim ?_ ?_
  exact de_var (i := 4)
  exact de_int
  refine db_int V.b_int (by rfl) ?_
  refine da_cons ?_ ?_
  exact de_var (i := 5)
  exact da_nil
  exact de_var (i := 1)
  exact de_var (i := 3)
  refine dss_one ?_
  refine ds_set (i := 2) sc_law_mixed.nd ?_
  refine de_add ?_ ?_
  refine de_tim ?_ ?_
  exact de_var (i := 2)
  exact de_int
  refine de_mod ?_ ?_
  refine de_pow ?_ ?_
  exact de_var (i := 4)
  exact de_int
  exact de_var (i := 3)
  refine dss_one ?_
  refine ds_rt ?_
  exact de_var (i := 2)) i
theorem sc_law_take : FnScope ["draw", "amount", "found"] ["draw", "amount"] (defScope (top 38)) := ⟨rfl, rfl, rfl, by decide +kernel, rfl, by decide +kernel, by decide +kernel⟩
def m_law_take : SM := (sSq (sIf (tBo (e2 dEq (eDi 0) (eC (.int 0)))) (sDi 0 (eDi 0)) sNx)
  (sSq (sSet 2 (e2 dMod (eA bInt2 (aCons (eDi 0) aNil)) (eVar 1)))
  (sSq (sDi 0 (e2 dDiv (eA bInt2 (aCons (eDi 0) aNil)) (eVar 1)))
  (sRt (eVar 2)))))
theorem k_law_take (V : Vx P w K mg base T) (f_law_mixed : FnD P w K mg base T 1 "_law_mixed" (top 37) ["draw"] F_law_mixed) (i : ∀ ds Q Z, F_law_take ds Q Z → fnW 3 2 m_law_take ds Q Z) : FnD P w K mg base T 2 "_law_take" (top 38) ["draw", "amount"] F_law_take :=
  fnD_mk V.d__law_take sc_law_take (fun _ _ _ _ _ _ us hl => match us, hl with | [_, _], _ => rfl) (fun f cdv A outer s H E g B c => by
  unfold m_law_take
  refine dss_cons ?_ ?_
  refine ds_if ?_ ?_ ?_
  refine dt_eq c ?_ ?_
  exact de_dint (i := 0) (.inl rfl) c
  exact de_int
  refine dss_one ?_
  refine ds_dint (i := 0) (.inl rfl) c ?_
  exact (de_dnext (i := 0) c (by decide) f_law_mixed (by rfl) (by rfl))
  exact dss_nil
  refine dss_cons ?_ ?_
  refine ds_set (i := 2) sc_law_take.nd ?_
  refine de_mod ?_ ?_
  refine db_int V.b_int (by rfl) ?_
  refine da_cons ?_ ?_
  exact de_dint (i := 0) (.inl rfl) c
  exact da_nil
  exact de_var (i := 1)
  refine dss_cons ?_ ?_
  refine ds_dint (i := 0) (.inl rfl) c ?_
  refine de_div ?_ ?_
  refine db_int V.b_int (by rfl) ?_
  refine da_cons ?_ ?_
  exact de_dint (i := 0) (.inl rfl) c
  exact da_nil
  exact de_var (i := 1)
  refine dss_one ?_
  refine ds_rt ?_
  exact de_var (i := 2)) i
theorem sc_law_pick : FnScope ["draw", "some"] ["draw", "some"] (defScope (top 39)) := ⟨rfl, rfl, rfl, by decide +kernel, rfl, by decide +kernel, by decide +kernel⟩
def m_law_pick : SM := (sRt (e2 dIx (eVar 1) (eF 2 F_law_take (aCons (eVar 0) (aCons (eA bLen (aCons (eVar 1) aNil)) aNil)))))
theorem k_law_pick (V : Vx P w K mg base T) (f_law_take : FnD P w K mg base T 2 "_law_take" (top 38) ["draw", "amount"] F_law_take) (i : ∀ ds Q Z, F_law_pick ds Q Z → fnW 2 2 m_law_pick ds Q Z) : FnD P w K mg base T 3 "_law_pick" (top 39) ["draw", "some"] F_law_pick :=
  fnD_mk V.d__law_pick sc_law_pick (fun _ _ _ _ _ _ us hl => match us, hl with | [_, _], _ => rfl) (fun f cdv A outer s H E g B c => by
  unfold m_law_pick
  refine dss_one ?_
  refine ds_rt ?_
  refine de_ix ?_ ?_
  exact de_var (i := 1)
  refine de_call f_law_take c (by decide) (by rfl) ?_
  refine da_cons ?_ ?_
  exact de_var (i := 0)
  refine da_cons ?_ ?_
  refine db_len V.b_len (by rfl) ?_
  refine da_cons ?_ ?_
  exact de_var (i := 1)
  exact da_nil
  exact da_nil) i
theorem sc_law_caught : FnScope ["work", "caught", "error"] ["work"] (defScope (top 40)) := ⟨rfl, rfl, rfl, by decide +kernel, rfl, by decide +kernel, by decide +kernel⟩
theorem sc_law_says : FnScope ["told", "due"] ["told", "due"] (defScope (top 41)) := ⟨rfl, rfl, rfl, by decide +kernel, rfl, by decide +kernel, by decide +kernel⟩
def m_law_says : SM := (sRt (e2 dEq (eA bRpr (aCons (eVar 0) aNil)) (eA bRpr (aCons (eVar 1) aNil))))
theorem k_law_says (V : Vx P w K mg base T)  (i : ∀ ds Q Z, F_law_says ds Q Z → fnW 2 2 m_law_says ds Q Z) : FnD P w K mg base T 1 "_law_says" (top 41) ["told", "due"] F_law_says :=
  fnD_mk V.d__law_says sc_law_says (fun _ _ _ _ _ _ us hl => match us, hl with | [_, _], _ => rfl) (fun f cdv A outer s H E g B c => by
  unfold m_law_says
  refine dss_one ?_
  refine ds_rt ?_
  refine dc_eq c ?_ ?_
  refine db_repr c V.b_repr (by rfl) ?_
  refine da_cons ?_ ?_
  exact de_var (i := 0)
  exact da_nil
  refine db_repr c V.b_repr (by rfl) ?_
  refine da_cons ?_ ?_
  exact de_var (i := 1)
  exact da_nil) i
theorem sc_law_divides : FnScope ["first", "second", "power", "more"] ["first", "second"] (defScope (top 42)) := ⟨rfl, rfl, rfl, by decide +kernel, rfl, by decide +kernel, by decide +kernel⟩
def m_law_divides : SM := (sRt (e2 dEq (eLc [2, 3] (tg2 2 3) (iZp (eVar 0) (eVar 1)) (tBo (e2 dGt (eVar 2) (eVar 3))) (eC (.int 1))) (eLst aNil)))
theorem k_law_divides (V : Vx P w K mg base T)  (i : ∀ ds Q Z, F_law_divides ds Q Z → fnW 4 2 m_law_divides ds Q Z) : FnD P w K mg base T 1 "_law_divides" (top 42) ["first", "second"] F_law_divides :=
  fnD_mk V.d__law_divides sc_law_divides (fun _ _ _ _ _ _ us hl => match us, hl with | [_, _], _ => rfl) (fun f cdv A outer s H E g B c => by
  unfold m_law_divides
  refine dss_one ?_
  refine ds_rt ?_
  refine dc_eq c ?_ ?_
  refine de_lc c.calm sc_law_divides.nd ?_ (blkOk_by (N := ["first", "second", "power", "more"]) (sc := (defScope (top 42))) (own := [("power", 2), ("more", 3)]) (by decide +kernel)) (fun _ _ _ _ _ => (pg_tup (by exact c.calm) (pgs_cons (pg_name (i := 2) sc_law_divides.nd rfl (.inl rfl)) (pgs_cons (pg_name (i := 3) sc_law_divides.nd rfl (.inl rfl)) pgs_nil)))) (tg2_ok 2 3) (by decide) (fun _ _ _ _ _ _ => ?_) (fun _ _ _ _ _ _ => ?_)
  refine di_zp (by rfl) V.b_zip ?_ ?_
  exact de_var (i := 0)
  exact de_var (i := 1)
  refine dts_one ?_
  refine dt_gt ?_ ?_
  exact de_var (i := 2)
  exact de_var (i := 3)
  exact de_int
  refine de_lst ?_
  exact da_nil) i
theorem sc_law_common : FnScope ["first", "second", "power", "more"] ["first", "second"] (defScope (top 43)) := ⟨rfl, rfl, rfl, by decide +kernel, rfl, by decide +kernel, by decide +kernel⟩
def m_law_common : SM := (sRt (eA bTup (aCons (eLc [2, 3] (tg2 2 3) (iZp (eVar 0) (eVar 1)) tTrue (eA bMax2 (aCons (eVar 2) (aCons (eVar 3) aNil)))) aNil)))
theorem k_law_common (V : Vx P w K mg base T)  (i : ∀ ds Q Z, F_law_common ds Q Z → fnW 4 2 m_law_common ds Q Z) : FnD P w K mg base T 1 "_law_common" (top 43) ["first", "second"] F_law_common :=
  fnD_mk V.d__law_common sc_law_common (fun _ _ _ _ _ _ us hl => match us, hl with | [_, _], _ => rfl) (fun f cdv A outer s H E g B c => by
  unfold m_law_common
  refine dss_one ?_
  refine ds_rt ?_
  refine db_tuple V.b_tuple (by rfl) ?_
  refine da_cons ?_ ?_
  refine de_lc c.calm sc_law_common.nd ?_ (blkOk_by (N := ["first", "second", "power", "more"]) (sc := (defScope (top 43))) (own := [("power", 2), ("more", 3)]) (by decide +kernel)) (fun _ _ _ _ _ => (pg_tup (by exact c.calm) (pgs_cons (pg_name (i := 2) sc_law_common.nd rfl (.inl rfl)) (pgs_cons (pg_name (i := 3) sc_law_common.nd rfl (.inl rfl)) pgs_nil)))) (tg2_ok 2 3) (by decide) (fun _ _ _ _ _ _ => ?_) (fun _ _ _ _ _ _ => ?_)
  refine di_zp (by rfl) V.b_zip ?_ ?_
  exact de_var (i := 0)
  exact de_var (i := 1)
  exact dts_nil
  refine db_max (c.blk _ _ _ _ _) V.b_max (by rfl) ?_
  refine da_cons ?_ ?_
  exact de_var (i := 2)
  refine da_cons ?_ ?_
  exact de_var (i := 3)
  exact da_nil
  exact da_nil) i
theorem sc_law_least : FnScope ["some", "found", "monomial", "near"] ["some"] (defScope (top 44)) := ⟨rfl, rfl, rfl, by decide +kernel, rfl, by decide +kernel, by decide +kernel⟩
def m_law_least : SM := (sSq (sNil 1)
  (sSq (sFor (tgN 2) [2, 3] (iOf (eA bSrt (aCons (eVar 0) aNil))) (sIf (tAn (tPk 1 (tBo (e2 dNi (eVar 2) (eVar 1)))) (tBo (e2 dEq (eLc [3] (tgN 3) (iOf (eVar 0)) (tAn (tBo (e2 dNe (eVar 3) (eVar 2))) (tTru (eF 2 F_law_divides (aCons (eVar 3) (aCons (eVar 2) aNil))))) (eC (.int 1))) (eLst aNil)))) (sApp 1 (eVar 2)) sNx))
  (sFz 1 (sRt (eA bTup (aCons (eVar 1) aNil))))))
theorem k_law_least (V : Vx P w K mg base T) (f_law_divides : FnD P w K mg base T 1 "_law_divides" (top 42) ["first", "second"] F_law_divides) (i : ∀ ds Q Z, F_law_least ds Q Z → fnW 4 1 m_law_least ds Q Z) : FnD P w K mg base T 2 "_law_least" (top 44) ["some"] F_law_least :=
  fnD_mk V.d__law_least sc_law_least (fun _ _ _ _ _ _ us hl => match us, hl with | [_], _ => rfl) (fun f cdv A outer s H E g B c => by
  unfold m_law_least
  refine dss_cons ?_ ?_
  exact ds_nil (i := 1) sc_law_least.nd
  refine dss_cons ?_ ?_
  refine ds_for (kl := [2, 3]) (passes_of rfl) c.calm ?_ (pg_name (i := 2) sc_law_least.nd rfl (.inr rfl)) (tgN_ok 2) ?_
  refine di_of ?_
  refine db_sorted c V.b_sorted (by rfl) ?_
  refine da_cons ?_ ?_
  exact de_var (i := 0)
  exact da_nil
  refine dss_one ?_
  refine ds_if ?_ ?_ ?_
  refine dw_t ?_
  refine dw_and ?_ ?_
  refine dt_pk (i := 1) (fun B2 => ?_)
  refine dt_ni (c.ef) ?_ ?_
  exact de_var (i := 2)
  exact de_var (i := 1)
  refine dw_and1 ?_
  refine dt_eq c ?_ ?_
  refine de_lc c.calm sc_law_least.nd ?_ (blkOk_by (N := ["some", "found", "monomial", "near"]) (sc := (defScope (top 44))) (own := [("near", 3)]) (by decide +kernel)) (fun _ _ _ _ _ => (pg_name (i := 3) sc_law_least.nd rfl (.inl rfl))) (tgN_ok 3) (by decide) (fun _ _ _ _ _ _ => ?_) (fun _ _ _ _ _ _ => ?_)
  refine di_of ?_
  exact de_var (i := 0)
  refine dts_one ?_
  refine dw_t ?_
  refine dw_and ?_ ?_
  refine dt_ne (c.blk _ _ _ _ _) ?_ ?_
  exact de_var (i := 3)
  exact de_var (i := 2)
  refine dw_and1 ?_
  refine dt_tru ?_
  refine de_call f_law_divides (c.blk _ _ _ _ _) (by decide) (by rfl) ?_
  refine da_cons ?_ ?_
  exact de_var (i := 3)
  refine da_cons ?_ ?_
  exact de_var (i := 2)
  exact da_nil
  exact de_int
  refine de_lst ?_
  exact da_nil
  refine dss_one ?_
  refine ds_app (i := 1) ?_ (hp := fun h1 h2 => pe_bm PySem.F.plainAttrs_list PySem.F.slot_list_append PySem.F.type_list_append mt_append h1 h2)
  exact de_var (i := 2)
  exact dss_nil
  refine dss_fz (i := 1) ?_
  refine dss_one ?_
  refine ds_rt ?_
  refine db_tuple V.b_tuple (by rfl) ?_
  refine da_cons ?_ ?_
  exact de_var (i := 1)
  exact da_nil) i
theorem sc_law_monomial : FnScope ["draw", "letters", "high", "letter"] ["draw", "letters", "high"] (defScope (top 45)) := ⟨rfl, rfl, rfl, by decide +kernel, rfl, by decide +kernel, by decide +kernel⟩
def m_law_monomial : SM := (sRt (eA bTup (aCons (eLc [3] (tgN 3) (iRg1 (eVar 1)) tTrue (eF 2 F_law_take (aCons (eVar 0) (aCons (e2 dAdd (eVar 2) (eC (.int 1))) aNil)))) aNil)))
theorem k_law_monomial (V : Vx P w K mg base T) (f_law_take : FnD P w K mg base T 2 "_law_take" (top 38) ["draw", "amount"] F_law_take) (i : ∀ ds Q Z, F_law_monomial ds Q Z → fnW 4 3 m_law_monomial ds Q Z) : FnD P w K mg base T 3 "_law_monomial" (top 45) ["draw", "letters", "high"] F_law_monomial :=
  fnD_mk V.d__law_monomial sc_law_monomial (fun _ _ _ _ _ _ us hl => match us, hl with | [_, _, _], _ => rfl) (fun f cdv A outer s H E g B c => by
  unfold m_law_monomial
  refine dss_one ?_
  refine ds_rt ?_
  refine db_tuple V.b_tuple (by rfl) ?_
  refine da_cons ?_ ?_
  refine de_lc c.calm sc_law_monomial.nd ?_ (blkOk_by (N := ["draw", "letters", "high", "letter"]) (sc := (defScope (top 45))) (own := [("letter", 3)]) (by decide +kernel)) (fun _ _ _ _ _ => (pg_name (i := 3) sc_law_monomial.nd rfl (.inl rfl))) (tgN_ok 3) (by decide) (fun _ _ _ _ _ _ => ?_) (fun _ _ _ _ _ _ => ?_)
  refine di_rg1 (by rfl) V.b_range ?_
  exact de_var (i := 1)
  exact dts_nil
  refine de_call f_law_take (c.blk _ _ _ _ _) (by decide) (by rfl) ?_
  refine da_cons ?_ ?_
  exact de_var (i := 0)
  refine da_cons ?_ ?_
  refine de_add ?_ ?_
  exact de_var (i := 2)
  exact de_int
  exact da_nil
  exact da_nil) i
theorem sc_law_drawn : FnScope ["draw", "letters", "most", "high", "lap"] ["draw", "letters", "most"] (defScope (top 46)) := ⟨rfl, rfl, rfl, by decide +kernel, rfl, by decide +kernel, by decide +kernel⟩
def m_law_drawn : SM := (sSq (sSet 3 (eF 2 F_law_pick (aCons (eVar 0) (aCons (eLst (aCons (eC (.int 1)) (aCons (eC (.int 2)) (aCons (eC (.int 3)) (aCons (eC (.int 6)) aNil))))) aNil))))
  (sRt (eSl (eF 1 F_law_least (aCons (eLc [4] (tgN 4) (iRg1 (e2 dAdd (eC (.int 1)) (eF 2 F_law_take (aCons (eVar 0) (aCons (eVar 2) aNil))))) tTrue (eF 3 F_law_monomial (aCons (eVar 0) (aCons (eVar 1) (aCons (eVar 3) aNil))))) aNil)) oNo (oSo (eC (.int 10))))))
theorem k_law_drawn (V : Vx P w K mg base T) (f_law_take : FnD P w K mg base T 2 "_law_take" (top 38) ["draw", "amount"] F_law_take) (f_law_pick : FnD P w K mg base T 3 "_law_pick" (top 39) ["draw", "some"] F_law_pick) (f_law_least : FnD P w K mg base T 2 "_law_least" (top 44) ["some"] F_law_least) (f_law_monomial : FnD P w K mg base T 3 "_law_monomial" (top 45) ["draw", "letters", "high"] F_law_monomial) (i : ∀ ds Q Z, F_law_drawn ds Q Z → fnW 5 3 m_law_drawn ds Q Z) : FnD P w K mg base T 4 "_law_drawn" (top 46) ["draw", "letters", "most"] F_law_drawn :=
  fnD_mk V.d__law_drawn sc_law_drawn (fun _ _ _ _ _ _ us hl => match us, hl with | [_, _, _], _ => rfl) (fun f cdv A outer s H E g B c => by
  unfold m_law_drawn
  refine dss_cons ?_ ?_
  refine ds_set (i := 3) sc_law_drawn.nd ?_
  refine de_call f_law_pick c (by decide) (by rfl) ?_
  refine da_cons ?_ ?_
  exact de_var (i := 0)
  refine da_cons ?_ ?_
  refine de_lst ?_
  refine da_cons ?_ ?_
  exact de_int
  refine da_cons ?_ ?_
  exact de_int
  refine da_cons ?_ ?_
  exact de_int
  refine da_cons ?_ ?_
  exact de_int
  exact da_nil
  exact da_nil
  refine dss_one ?_
  refine ds_rt ?_
  refine de_sl ?_ ?_ ?_
  refine de_call f_law_least c (by decide) (by rfl) ?_
  refine da_cons ?_ ?_
  refine de_lc c.calm sc_law_drawn.nd ?_ (blkOk_by (N := ["draw", "letters", "most", "high", "lap"]) (sc := (defScope (top 46))) (own := [("lap", 4)]) (by decide +kernel)) (fun _ _ _ _ _ => (pg_name (i := 4) sc_law_drawn.nd rfl (.inl rfl))) (tgN_ok 4) (by decide) (fun _ _ _ _ _ _ => ?_) (fun _ _ _ _ _ _ => ?_)
  refine di_rg1 (by rfl) V.b_range ?_
  refine de_add ?_ ?_
  exact de_int
  refine de_call f_law_take c (by decide) (by rfl) ?_
  refine da_cons ?_ ?_
  exact de_var (i := 0)
  refine da_cons ?_ ?_
  exact de_var (i := 2)
  exact da_nil
  exact dts_nil
  refine de_call f_law_monomial (c.blk _ _ _ _ _) (by decide) (by rfl) ?_
  refine da_cons ?_ ?_
  exact de_var (i := 0)
  refine da_cons ?_ ?_
  exact de_var (i := 1)
  refine da_cons ?_ ?_
  exact de_var (i := 3)
  exact da_nil
  exact da_nil
  exact do_no
  refine do_so ?_
  exact de_int) i
theorem sc_law_stands_under : FnScope ["some", "monomial", "near"] ["some", "monomial"] (defScope (top 47)) := ⟨rfl, rfl, rfl, by decide +kernel, rfl, by decide +kernel, by decide +kernel⟩
def m_law_stands_under : SM := (sRt (e2 dNe (eLc [2] (tgN 2) (iOf (eVar 0)) (tTru (eF 2 F_law_divides (aCons (eVar 2) (aCons (eVar 1) aNil)))) (eC (.int 1))) (eLst aNil)))
theorem k_law_stands_under (V : Vx P w K mg base T) (f_law_divides : FnD P w K mg base T 1 "_law_divides" (top 42) ["first", "second"] F_law_divides) (i : ∀ ds Q Z, F_law_stands_under ds Q Z → fnW 3 2 m_law_stands_under ds Q Z) : FnD P w K mg base T 2 "_law_stands_under" (top 47) ["some", "monomial"] F_law_stands_under :=
  fnD_mk V.d__law_stands_under sc_law_stands_under (fun _ _ _ _ _ _ us hl => match us, hl with | [_, _], _ => rfl) (fun f cdv A outer s H E g B c => by
  unfold m_law_stands_under
  refine dss_one ?_
  refine ds_rt ?_
  refine dc_ne c ?_ ?_
  refine de_lc c.calm sc_law_stands_under.nd ?_ (blkOk_by (N := ["some", "monomial", "near"]) (sc := (defScope (top 47))) (own := [("near", 2)]) (by decide +kernel)) (fun _ _ _ _ _ => (pg_name (i := 2) sc_law_stands_under.nd rfl (.inl rfl))) (tgN_ok 2) (by decide) (fun _ _ _ _ _ _ => ?_) (fun _ _ _ _ _ _ => ?_)
  refine di_of ?_
  exact de_var (i := 0)
  refine dts_one ?_
  refine dt_tru ?_
  refine de_call f_law_divides (c.blk _ _ _ _ _) (by decide) (by rfl) ?_
  refine da_cons ?_ ?_
  exact de_var (i := 2)
  refine da_cons ?_ ?_
  exact de_var (i := 1)
  exact da_nil
  exact de_int
  refine de_lst ?_
  exact da_nil) i
theorem sc_law_no_letters : FnScope ["draw"] ["draw"] (defScope (top 48)) := ⟨rfl, rfl, rfl, by decide +kernel, rfl, by decide +kernel, by decide +kernel⟩
def m_law_no_letters : SM := (sRt (eF 2 F_law_pick (aCons (eVar 0) (aCons (eLst (aCons (eC (.int 0)) (aCons (eC (.int 5)) (aCons (eC (.int (-1))) (aCons (eC .non) (aCons (eC (.bl true)) (aCons (eC (.str "2")) (aCons (eTup (aCons (eC (.int 2)) aNil)) aNil)))))))) aNil))))
theorem k_law_no_letters (V : Vx P w K mg base T) (f_law_pick : FnD P w K mg base T 3 "_law_pick" (top 39) ["draw", "some"] F_law_pick) (i : ∀ ds Q Z, F_law_no_letters ds Q Z → fnW 1 1 m_law_no_letters ds Q Z) : FnD P w K mg base T 4 "_law_no_letters" (top 48) ["draw"] F_law_no_letters :=
  fnD_mk V.d__law_no_letters sc_law_no_letters (fun _ _ _ _ _ _ us hl => match us, hl with | [_], _ => rfl) (fun f cdv A outer s H E g B c => by
  unfold m_law_no_letters
  refine dss_one ?_
  refine ds_rt ?_
  refine de_call f_law_pick c (by decide) (by rfl) ?_
  refine da_cons ?_ ?_
  exact de_var (i := 0)
  refine da_cons ?_ ?_
  refine de_lst ?_
  refine da_cons ?_ ?_
  exact de_int
  refine da_cons ?_ ?_
  exact de_int
  refine da_cons ?_ ?_
  exact de_neg
  refine da_cons ?_ ?_
  exact de_non
  refine da_cons ?_ ?_
  exact de_bl
  refine da_cons ?_ ?_
  exact de_str
  refine da_cons ?_ ?_
  refine de_tup ?_
  refine da_cons ?_ ?_
  exact de_int
  exact da_nil
  exact da_nil
  exact da_nil) i
theorem sc_law_no_stairs : FnScope ["draw", "letters", "own", "zero", "some"] ["draw", "letters", "own"] (defScope (top 49)) := ⟨rfl, rfl, rfl, by decide +kernel, rfl, by decide +kernel, by decide +kernel⟩
def m_law_no_stairs : SM := (sSq (sSet 3 (e2 dTm (eTup (aCons (eC (.int 0)) aNil)) (eVar 1)))
  (sSq (sSet 4 (eLst (aCons (eC .non) (aCons (eC (.int 5)) (aCons (eTup aNil) (aCons (eA bLst (aCons (eVar 2) aNil)) (aCons (e2 dAdd (eVar 2) (eSl (eVar 2) (oSo (eC (.int (-1)))) oNo)) (aCons (eTup (aCons (e2 dAdd (eVar 3) (eTup (aCons (eC (.int 1)) aNil))) aNil)) (aCons (eTup (aCons (e2 dTm (eTup (aCons (eC (.int 7)) aNil)) (eVar 1)) aNil)) (aCons (eTup (aCons (eA bLst (aCons (eVar 3) aNil)) aNil)) (aCons (eTup (aCons (e2 dTm (eTup (aCons (eC (.bl true)) aNil)) (eVar 1)) aNil)) (aCons (eTup (aCons (eVar 3) (aCons (e2 dTm (eTup (aCons (eC (.int 1)) aNil)) (eVar 1)) aNil))) (aCons (eTup (aCons (eC (.str "a")) aNil)) (aCons (eTup (aCons (e2 dTm (eTup (aCons (eC (.int (-1))) aNil)) (eVar 1)) aNil)) aNil))))))))))))))
  (sRt (eF 2 F_law_pick (aCons (eVar 0) (aCons (e2 dAdd (eVar 4) (eLst (aCons (eIf (tBo (e2 dGt (eA bLen (aCons (eVar 2) aNil)) (eC (.int 1)))) (eRv (eVar 2)) (eTup aNil)) (aCons (eVar 3) aNil)))) aNil))))))
theorem k_law_no_stairs (V : Vx P w K mg base T) (f_law_pick : FnD P w K mg base T 3 "_law_pick" (top 39) ["draw", "some"] F_law_pick) (i : ∀ ds Q Z, F_law_no_stairs ds Q Z → fnW 5 3 m_law_no_stairs ds Q Z) : FnD P w K mg base T 4 "_law_no_stairs" (top 49) ["draw", "letters", "own"] F_law_no_stairs :=
  fnD_mk V.d__law_no_stairs sc_law_no_stairs (fun _ _ _ _ _ _ us hl => match us, hl with | [_, _, _], _ => rfl) (fun f cdv A outer s H E g B c => by
  unfold m_law_no_stairs
  refine dss_cons ?_ ?_
  refine ds_set (i := 3) sc_law_no_stairs.nd ?_
  refine de_tm ?_ ?_
  refine de_tup ?_
  refine da_cons ?_ ?_
  exact de_int
  exact da_nil
  exact de_var (i := 1)
  refine dss_cons ?_ ?_
  refine ds_set (i := 4) sc_law_no_stairs.nd ?_
  refine de_lst ?_
  refine da_cons ?_ ?_
  exact de_non
  refine da_cons ?_ ?_
  exact de_int
  refine da_cons ?_ ?_
  refine de_tup ?_
  exact da_nil
  refine da_cons ?_ ?_
  refine db_list V.b_list (by rfl) ?_
  refine da_cons ?_ ?_
  exact de_var (i := 2)
  exact da_nil
  refine da_cons ?_ ?_
  refine de_add ?_ ?_
  exact de_var (i := 2)
  refine de_sl ?_ ?_ ?_
  exact de_var (i := 2)
  refine do_so ?_
  exact de_neg
  exact do_no
  refine da_cons ?_ ?_
  refine de_tup ?_
  refine da_cons ?_ ?_
  refine de_add ?_ ?_
  exact de_var (i := 3)
  refine de_tup ?_
  refine da_cons ?_ ?_
  exact de_int
  exact da_nil
  exact da_nil
  refine da_cons ?_ ?_
  refine de_tup ?_
  refine da_cons ?_ ?_
  refine de_tm ?_ ?_
  refine de_tup ?_
  refine da_cons ?_ ?_
  exact de_int
  exact da_nil
  exact de_var (i := 1)
  exact da_nil
  refine da_cons ?_ ?_
  refine de_tup ?_
  refine da_cons ?_ ?_
  refine db_list V.b_list (by rfl) ?_
  refine da_cons ?_ ?_
  exact de_var (i := 3)
  exact da_nil
  exact da_nil
  refine da_cons ?_ ?_
  refine de_tup ?_
  refine da_cons ?_ ?_
  refine de_tm ?_ ?_
  refine de_tup ?_
  refine da_cons ?_ ?_
  exact de_bl
  exact da_nil
  exact de_var (i := 1)
  exact da_nil
  refine da_cons ?_ ?_
  refine de_tup ?_
  refine da_cons ?_ ?_
  exact de_var (i := 3)
  refine da_cons ?_ ?_
  refine de_tm ?_ ?_
  refine de_tup ?_
  refine da_cons ?_ ?_
  exact de_int
  exact da_nil
  exact de_var (i := 1)
  exact da_nil
  refine da_cons ?_ ?_
  refine de_tup ?_
  refine da_cons ?_ ?_
  exact de_str
  exact da_nil
  refine da_cons ?_ ?_
  refine de_tup ?_
  refine da_cons ?_ ?_
  refine de_tm ?_ ?_
  refine de_tup ?_
  refine da_cons ?_ ?_
  exact de_neg
  exact da_nil
  exact de_var (i := 1)
  exact da_nil
  exact da_nil
  refine dss_one ?_
  refine ds_rt ?_
  refine de_call f_law_pick c (by decide) (by rfl) ?_
  refine da_cons ?_ ?_
  exact de_var (i := 0)
  refine da_cons ?_ ?_
  refine de_add ?_ ?_
  exact de_var (i := 4)
  refine de_lst ?_
  refine da_cons ?_ ?_
  refine de_if ?_ ?_ ?_
  refine dt_gt ?_ ?_
  refine db_len V.b_len (by rfl) ?_
  refine da_cons ?_ ?_
  exact de_var (i := 2)
  exact da_nil
  exact de_int
  refine de_rv ?_
  exact de_var (i := 2)
  refine de_tup ?_
  exact da_nil
  refine da_cons ?_ ?_
  exact de_var (i := 3)
  exact da_nil
  exact da_nil) i
theorem sc_law_word : FnScope ["error", "some", "word", "is_so"] ["error"] (defScope (top 50)) := ⟨rfl, rfl, rfl, by decide +kernel, rfl, by decide +kernel, by decide +kernel⟩
def m_law_word : SM := (sSq (sIf (tBo (e2 dIs (eVar 0) (eC .non))) (sRt (eC (.str ""))) sNx)
  (sSq (sIf (tTru (eA (bIsi ko ke) (aCons (eVar 0) (aCons (eC (.fn "BadNumber")) aNil)))) (sRt (e2 dAdd (eC (.str "number ")) (eA bRpr (aCons (eXf okx_part "part" (eVar 0)) aNil)))) sNx)
  (sSq (sIf (tTru (eA (bIsi ko ke) (aCons (eVar 0) (aCons (eC (.fn "TooMany")) aNil)))) (sRt (e2 dAdd (eC (.str "many ")) (eA bRpr (aCons (eXf okx_most "most" (eVar 0)) aNil)))) sNx)
  (sSq (sSet 1 (eLst (aCons (eTup (aCons (eC (.str "monomial")) (aCons (eA (bIsi ko ke) (aCons (eVar 0) (aCons (eC (.fn "BadMonomial")) aNil))) aNil))) (aCons (eTup (aCons (eC (.str "stairs")) (aCons (eA (bIsi ko ke) (aCons (eVar 0) (aCons (eC (.fn "BadStairs")) aNil))) aNil))) (aCons (eTup (aCons (eC (.str "parts")) (aCons (eA (bIsi ko ke) (aCons (eVar 0) (aCons (eC (.fn "BadParts")) aNil))) aNil))) (aCons (eTup (aCons (eC (.str "top")) (aCons (eA (bIsi ko ke) (aCons (eVar 0) (aCons (eC (.fn "BadTop")) aNil))) aNil))) aNil))))))
  (sRt (e2 dIx (e2 dAdd (eLc [2, 3] (tg2 2 3) (iOf (eVar 1)) (tTru (eVar 3)) (eVar 2)) (eLst (aCons (eC (.str "other")) aNil))) (eC (.int 0))))))))
theorem k_law_word (V : Vx P w K mg base T)  (i : ∀ ds Q Z, F_law_word ds Q Z → fnW 4 1 m_law_word ds Q Z) : FnD P w K mg base T 1 "_law_word" (top 50) ["error"] F_law_word :=
  fnD_mk V.d__law_word sc_law_word (fun _ _ _ _ _ _ us hl => match us, hl with | [_], _ => rfl) (fun f cdv A outer s H E g B c => by
  unfold m_law_word
  refine dss_cons ?_ ?_
  refine ds_if ?_ ?_ ?_
  refine dt_is ?_ ?_
  exact de_var (i := 0)
  exact de_non
  refine dss_one ?_
  refine ds_rt ?_
  exact de_str
  exact dss_nil
  refine dss_cons ?_ ?_
  refine ds_if ?_ ?_ ?_
  refine dt_tru ?_
  refine db_isi (bisi_ok V.ko V.ke) V.b_isinstance (by rfl) ?_
  refine da_cons ?_ ?_
  exact de_var (i := 0)
  refine da_cons ?_ ?_
  exact dv_cls V.c_BadNumber.choose_spec.1 (by rfl)
  exact da_nil
  refine dss_one ?_
  refine ds_rt ?_
  refine de_add ?_ ?_
  exact de_str
  refine db_repr c V.b_repr (by rfl) ?_
  refine da_cons ?_ ?_
  refine de_xf V.okx_part ?_
  exact de_var (i := 0)
  exact da_nil
  exact dss_nil
  refine dss_cons ?_ ?_
  refine ds_if ?_ ?_ ?_
  refine dt_tru ?_
  refine db_isi (bisi_ok V.ko V.ke) V.b_isinstance (by rfl) ?_
  refine da_cons ?_ ?_
  exact de_var (i := 0)
  refine da_cons ?_ ?_
  exact dv_cls V.c_TooMany.choose_spec.1 (by rfl)
  exact da_nil
  refine dss_one ?_
  refine ds_rt ?_
  refine de_add ?_ ?_
  exact de_str
  refine db_repr c V.b_repr (by rfl) ?_
  refine da_cons ?_ ?_
  refine de_xf V.okx_most ?_
  exact de_var (i := 0)
  exact da_nil
  exact dss_nil
  refine dss_cons ?_ ?_
  refine ds_set (i := 1) sc_law_word.nd ?_
  refine de_lst ?_
  refine da_cons ?_ ?_
  refine de_tup ?_
  refine da_cons ?_ ?_
  exact de_str
  refine da_cons ?_ ?_
  refine db_isi (bisi_ok V.ko V.ke) V.b_isinstance (by rfl) ?_
  refine da_cons ?_ ?_
  exact de_var (i := 0)
  refine da_cons ?_ ?_
  exact dv_cls V.c_BadMonomial.choose_spec.1 (by rfl)
  exact da_nil
  exact da_nil
  refine da_cons ?_ ?_
  refine de_tup ?_
  refine da_cons ?_ ?_
  exact de_str
  refine da_cons ?_ ?_
  refine db_isi (bisi_ok V.ko V.ke) V.b_isinstance (by rfl) ?_
  refine da_cons ?_ ?_
  exact de_var (i := 0)
  refine da_cons ?_ ?_
  exact dv_cls V.c_BadStairs.choose_spec.1 (by rfl)
  exact da_nil
  exact da_nil
  refine da_cons ?_ ?_
  refine de_tup ?_
  refine da_cons ?_ ?_
  exact de_str
  refine da_cons ?_ ?_
  refine db_isi (bisi_ok V.ko V.ke) V.b_isinstance (by rfl) ?_
  refine da_cons ?_ ?_
  exact de_var (i := 0)
  refine da_cons ?_ ?_
  exact dv_cls V.c_BadParts.choose_spec.1 (by rfl)
  exact da_nil
  exact da_nil
  refine da_cons ?_ ?_
  refine de_tup ?_
  refine da_cons ?_ ?_
  exact de_str
  refine da_cons ?_ ?_
  refine db_isi (bisi_ok V.ko V.ke) V.b_isinstance (by rfl) ?_
  refine da_cons ?_ ?_
  exact de_var (i := 0)
  refine da_cons ?_ ?_
  exact dv_cls V.c_BadTop.choose_spec.1 (by rfl)
  exact da_nil
  exact da_nil
  exact da_nil
  refine dss_one ?_
  refine ds_rt ?_
  refine de_ix ?_ ?_
  refine de_add ?_ ?_
  refine de_lc c.calm sc_law_word.nd ?_ (blkOk_by (N := ["error", "some", "word", "is_so"]) (sc := (defScope (top 50))) (own := [("word", 2), ("is_so", 3)]) (by decide +kernel)) (fun _ _ _ _ _ => (pg_tup (by exact c.calm) (pgs_cons (pg_name (i := 2) sc_law_word.nd rfl (.inl rfl)) (pgs_cons (pg_name (i := 3) sc_law_word.nd rfl (.inl rfl)) pgs_nil)))) (tg2_ok 2 3) (by decide) (fun _ _ _ _ _ _ => ?_) (fun _ _ _ _ _ _ => ?_)
  refine di_of ?_
  exact de_var (i := 1)
  refine dts_one ?_
  refine dt_tru ?_
  exact de_var (i := 3)
  exact de_var (i := 2)
  refine de_lst ?_
  refine da_cons ?_ ?_
  exact de_str
  exact da_nil
  exact de_int) i
theorem sc_law_bounds : FnScope ["own", "monomial"] ["own"] (defScope (top 51)) := ⟨rfl, rfl, rfl, by decide +kernel, rfl, by decide +kernel, by decide +kernel⟩
def m_law_bounds : SM := (sRt (e2 dAdd (eIf (tBo (e2 dNe (eLc [1] (tgN 1) (iOf (eVar 0)) (tBo (e2 dGt (eA bMaxT (aCons (eVar 1) aNil)) (eC (.int 6)))) (eC (.int 1))) (eLst aNil))) (eLst (aCons (eC (.str "monomial")) aNil)) (eLst aNil)) (eIf (tBo (e2 dGt (eA bLen (aCons (eVar 0) aNil)) (eC (.int 10)))) (eLst (aCons (eC (.str "many 10")) aNil)) (eLst aNil))))
theorem k_law_bounds (V : Vx P w K mg base T)  (i : ∀ ds Q Z, F_law_bounds ds Q Z → fnW 2 1 m_law_bounds ds Q Z) : FnD P w K mg base T 1 "_law_bounds" (top 51) ["own"] F_law_bounds :=
  fnD_mk V.d__law_bounds sc_law_bounds (fun _ _ _ _ _ _ us hl => match us, hl with | [_], _ => rfl) (fun f cdv A outer s H E g B c => by
  unfold m_law_bounds
  refine dss_one ?_
  refine ds_rt ?_
  refine de_add ?_ ?_
  refine de_if ?_ ?_ ?_
  refine dt_ne c ?_ ?_
  refine de_lc c.calm sc_law_bounds.nd ?_ (blkOk_by (N := ["own", "monomial"]) (sc := (defScope (top 51))) (own := [("monomial", 1)]) (by decide +kernel)) (fun _ _ _ _ _ => (pg_name (i := 1) sc_law_bounds.nd rfl (.inl rfl))) (tgN_ok 1) (by decide) (fun _ _ _ _ _ _ => ?_) (fun _ _ _ _ _ _ => ?_)
  refine di_of ?_
  exact de_var (i := 0)
  refine dts_one ?_
  refine dt_gt ?_ ?_
  refine db_maxT (c.blk _ _ _ _ _) V.b_max (by rfl) ?_
  refine da_cons ?_ ?_
  exact de_var (i := 1)
  exact da_nil
  exact de_int
  exact de_int
  refine de_lst ?_
  exact da_nil
  refine de_lst ?_
  refine da_cons ?_ ?_
  exact de_str
  exact da_nil
  refine de_lst ?_
  exact da_nil
  refine de_if ?_ ?_ ?_
  refine dt_gt ?_ ?_
  refine db_len V.b_len (by rfl) ?_
  refine da_cons ?_ ?_
  exact de_var (i := 0)
  exact da_nil
  exact de_int
  refine de_lst ?_
  refine da_cons ?_ ?_
  exact de_str
  exact da_nil
  refine de_lst ?_
  exact da_nil) i
theorem sc_law_products : FnScope ["first", "second", "found", "one", "near", "power", "more"] ["first", "second"] (defScope (top 52)) := ⟨rfl, rfl, rfl, by decide +kernel, rfl, by decide +kernel, by decide +kernel⟩
def m_law_products : SM := (sSq (sSet 2 (eLst aNil))
  (sSq (sFor (tgN 3) [3, 4, 5, 6] (iOf (eVar 0)) (sSet 2 (e2 dAdd (eVar 2) (eLc [4] (tgN 4) (iOf (eVar 1)) tTrue (eA bTup (aCons (eLc [5, 6] (tg2 5 6) (iZp (eVar 3) (eVar 4)) tTrue (e2 dAdd (eVar 5) (eVar 6))) aNil))))))
  (sRt (eF 1 F_law_least (aCons (eVar 2) aNil)))))
theorem k_law_products (V : Vx P w K mg base T) (f_law_least : FnD P w K mg base T 2 "_law_least" (top 44) ["some"] F_law_least) (i : ∀ ds Q Z, F_law_products ds Q Z → fnW 7 2 m_law_products ds Q Z) : FnD P w K mg base T 3 "_law_products" (top 52) ["first", "second"] F_law_products :=
  fnD_mk V.d__law_products sc_law_products (fun _ _ _ _ _ _ us hl => match us, hl with | [_, _], _ => rfl) (fun f cdv A outer s H E g B c => by
  unfold m_law_products
  refine dss_cons ?_ ?_
  refine ds_set (i := 2) sc_law_products.nd ?_
  refine de_lst ?_
  exact da_nil
  refine dss_cons ?_ ?_
  refine ds_for (kl := [3, 4, 5, 6]) (passes_of rfl) c.calm ?_ (pg_name (i := 3) sc_law_products.nd rfl (.inr rfl)) (tgN_ok 3) ?_
  refine di_of ?_
  exact de_var (i := 0)
  refine dss_one ?_
  refine ds_set (i := 2) sc_law_products.nd ?_
  refine de_add ?_ ?_
  exact de_var (i := 2)
  refine de_lc c.calm sc_law_products.nd ?_ (blkOk_by (N := ["first", "second", "found", "one", "near", "power", "more"]) (sc := (defScope (top 52))) (own := [("near", 4)]) (by decide +kernel)) (fun _ _ _ _ _ => (pg_name (i := 4) sc_law_products.nd rfl (.inl rfl))) (tgN_ok 4) (by decide) (fun _ _ _ _ _ _ => ?_) (fun _ _ _ _ _ _ => ?_)
  refine di_of ?_
  exact de_var (i := 1)
  exact dts_nil
  refine de_with (c.blk _ _ _ _ _) fun c2 => ?_
  refine db_tuple V.b_tuple (by rfl) ?_
  refine da_cons ?_ ?_
  refine de_lc c2.calm sc_law_products.nd ?_ (blkOk_by (N := ["first", "second", "found", "one", "near", "power", "more"]) (sc := ({ kind := .function, names := [(".0", .local), ("near", .local), ("tuple", .globalImplicit), ("zip", .globalImplicit), ("one", .cell)], isGenerator := false, isCoroutine := false } : Scope)) (own := [("power", 5), ("more", 6)]) (by decide +kernel)) (fun _ _ _ _ _ => (pg_tup (by exact c.calm) (pgs_cons (pg_name (i := 5) sc_law_products.nd rfl (.inl rfl)) (pgs_cons (pg_name (i := 6) sc_law_products.nd rfl (.inl rfl)) pgs_nil)))) (tg2_ok 5 6) (by decide) (fun _ _ _ _ _ _ => ?_) (fun _ _ _ _ _ _ => ?_)
  refine di_zp (by rfl) V.b_zip ?_ ?_
  exact de_var (i := 3)
  exact de_var (i := 4)
  exact dts_nil
  refine de_add ?_ ?_
  exact de_var (i := 5)
  exact de_var (i := 6)
  exact da_nil
  refine dss_one ?_
  refine ds_rt ?_
  refine de_call f_law_least c (by decide) (by rfl) ?_
  refine da_cons ?_ ?_
  exact de_var (i := 2)
  exact da_nil) i
theorem sc_law_met : FnScope ["first", "second", "found", "one", "near"] ["first", "second"] (defScope (top 53)) := ⟨rfl, rfl, rfl, by decide +kernel, rfl, by decide +kernel, by decide +kernel⟩
def m_law_met : SM := (sSq (sSet 2 (eLst aNil))
  (sSq (sFor (tgN 3) [3, 4] (iOf (eVar 0)) (sSet 2 (e2 dAdd (eVar 2) (eLc [4] (tgN 4) (iOf (eVar 1)) tTrue (eF 2 F_law_common (aCons (eVar 3) (aCons (eVar 4) aNil)))))))
  (sRt (eF 1 F_law_least (aCons (eVar 2) aNil)))))
theorem k_law_met (V : Vx P w K mg base T) (f_law_common : FnD P w K mg base T 1 "_law_common" (top 43) ["first", "second"] F_law_common) (f_law_least : FnD P w K mg base T 2 "_law_least" (top 44) ["some"] F_law_least) (i : ∀ ds Q Z, F_law_met ds Q Z → fnW 5 2 m_law_met ds Q Z) : FnD P w K mg base T 3 "_law_met" (top 53) ["first", "second"] F_law_met :=
  fnD_mk V.d__law_met sc_law_met (fun _ _ _ _ _ _ us hl => match us, hl with | [_, _], _ => rfl) (fun f cdv A outer s H E g B c => by
  unfold m_law_met
  refine dss_cons ?_ ?_
  refine ds_set (i := 2) sc_law_met.nd ?_
  refine de_lst ?_
  exact da_nil
  refine dss_cons ?_ ?_
  refine ds_for (kl := [3, 4]) (passes_of rfl) c.calm ?_ (pg_name (i := 3) sc_law_met.nd rfl (.inr rfl)) (tgN_ok 3) ?_
  refine di_of ?_
  exact de_var (i := 0)
  refine dss_one ?_
  refine ds_set (i := 2) sc_law_met.nd ?_
  refine de_add ?_ ?_
  exact de_var (i := 2)
  refine de_lc c.calm sc_law_met.nd ?_ (blkOk_by (N := ["first", "second", "found", "one", "near"]) (sc := (defScope (top 53))) (own := [("near", 4)]) (by decide +kernel)) (fun _ _ _ _ _ => (pg_name (i := 4) sc_law_met.nd rfl (.inl rfl))) (tgN_ok 4) (by decide) (fun _ _ _ _ _ _ => ?_) (fun _ _ _ _ _ _ => ?_)
  refine di_of ?_
  exact de_var (i := 1)
  exact dts_nil
  refine de_call f_law_common (c.blk _ _ _ _ _) (by decide) (by rfl) ?_
  refine da_cons ?_ ?_
  exact de_var (i := 3)
  refine da_cons ?_ ?_
  exact de_var (i := 4)
  exact da_nil
  refine dss_one ?_
  refine ds_rt ?_
  refine de_call f_law_least c (by decide) (by rfl) ?_
  refine da_cons ?_ ?_
  exact de_var (i := 2)
  exact da_nil) i
theorem sc_law_over : FnScope ["own", "monomial", "near", "power", "less"] ["own", "monomial"] (defScope (top 54)) := ⟨rfl, rfl, rfl, by decide +kernel, rfl, by decide +kernel, by decide +kernel⟩
def m_law_over : SM := (sRt (eF 1 F_law_least (aCons (eLc [2] (tgN 2) (iOf (eVar 0)) tTrue (eA bTup (aCons (eLc [3, 4] (tg2 3 4) (iZp (eVar 2) (eVar 1)) tTrue (eA bMax2 (aCons (eC (.int 0)) (aCons (e2 dSub (eVar 3) (eVar 4)) aNil)))) aNil))) aNil)))
theorem k_law_over (V : Vx P w K mg base T) (f_law_least : FnD P w K mg base T 2 "_law_least" (top 44) ["some"] F_law_least) (i : ∀ ds Q Z, F_law_over ds Q Z → fnW 5 2 m_law_over ds Q Z) : FnD P w K mg base T 3 "_law_over" (top 54) ["own", "monomial"] F_law_over :=
  fnD_mk V.d__law_over sc_law_over (fun _ _ _ _ _ _ us hl => match us, hl with | [_, _], _ => rfl) (fun f cdv A outer s H E g B c => by
  unfold m_law_over
  refine dss_one ?_
  refine ds_rt ?_
  refine de_call f_law_least c (by decide) (by rfl) ?_
  refine da_cons ?_ ?_
  refine de_lc c.calm sc_law_over.nd ?_ (blkOk_by (N := ["own", "monomial", "near", "power", "less"]) (sc := (defScope (top 54))) (own := [("near", 2)]) (by decide +kernel)) (fun _ _ _ _ _ => (pg_name (i := 2) sc_law_over.nd rfl (.inl rfl))) (tgN_ok 2) (by decide) (fun _ _ _ _ _ _ => ?_) (fun _ _ _ _ _ _ => ?_)
  refine di_of ?_
  exact de_var (i := 0)
  exact dts_nil
  refine de_with (c.blk _ _ _ _ _) fun c2 => ?_
  refine db_tuple V.b_tuple (by rfl) ?_
  refine da_cons ?_ ?_
  refine de_lc c2.calm sc_law_over.nd ?_ (blkOk_by (N := ["own", "monomial", "near", "power", "less"]) (sc := ({ kind := .function, names := [(".0", .local), ("near", .local), ("tuple", .globalImplicit), ("zip", .globalImplicit), ("monomial", .cell)], isGenerator := false, isCoroutine := false } : Scope)) (own := [("power", 3), ("less", 4)]) (by decide +kernel)) (fun _ _ _ _ _ => (pg_tup (by exact c.calm) (pgs_cons (pg_name (i := 3) sc_law_over.nd rfl (.inl rfl)) (pgs_cons (pg_name (i := 4) sc_law_over.nd rfl (.inl rfl)) pgs_nil)))) (tg2_ok 3 4) (by decide) (fun _ _ _ _ _ _ => ?_) (fun _ _ _ _ _ _ => ?_)
  refine di_zp (by rfl) V.b_zip ?_ ?_
  exact de_var (i := 2)
  exact de_var (i := 1)
  exact dts_nil
  refine db_max (c2.blk _ _ _ _ _) V.b_max (by rfl) ?_
  refine da_cons ?_ ?_
  exact de_int
  refine da_cons ?_ ?_
  refine de_sub ?_ ?_
  exact de_var (i := 3)
  exact de_var (i := 4)
  exact da_nil
  exact da_nil
  exact da_nil) i
theorem sc_law_asked : FnScope ["work", "due", "told", "bounds", "error"] ["work", "due"] (defScope (top 55)) := ⟨rfl, rfl, rfl, by decide +kernel, rfl, by decide +kernel, by decide +kernel⟩
def m_law_asked (f : Nat) (wk : W D) : SM := (sSq (sPo 2 [3] (aCons (eF 1 F_law_bounds (aCons (eVar 1) aNil)) aNil))
  (sSq (sCaA 4 2 subx (eWk 0 f wk))
  (sFz 2 (sRt (eIf (tBo (e2 dNe (eVar 3) (eLst aNil))) (e2 dEq (eF 1 F_law_word (aCons (eVar 4) aNil)) (e2 dIx (eVar 3) (eC (.int 0)))) (eAnd (e2 dIs (eVar 4) (eC .non)) (eF 2 F_law_says (aCons (e2 dIx (eVar 2) (eC (.int 0))) (aCons (eVar 1) aNil)))))))))
theorem k_law_asked {cX PX : Addr} (V : Vx P w K mg base T) (f_law_says : FnD P w K mg base T 1 "_law_says" (top 41) ["told", "due"] F_law_says) (f_law_word : FnD P w K mg base T 1 "_law_word" (top 50) ["error"] F_law_word) (f_law_bounds : FnD P w K mg base T 1 "_law_bounds" (top 51) ["own"] F_law_bounds) (CA : Cau K mg base T (top 40) cX PX "_law_asked.<locals>.<lambda>" subx) : ∀ (f : Nat) (wk : W D) (gA : Addr) (A : Around) (outer : List Env) (s : Shared) (H : Hp) (E1 : XK) (g : Gd) (B1 : Hp × Hp), CxK T 12 (cxOf (L2.CX P w) P w K mg base ["work", "due", "told", "bounds", "error"] "_law_asked" (defScope (top 55)) gA (.ref cX) A outer s H E1) g E1 → WorkC T 10 (cxOf (L2.CX P w) P w K mg base ["work", "due", "told", "bounds", "error"] "_law_asked" (defScope (top 55)) gA (.ref cX) A outer s H E1) g B1 f wk → DSs (cxOf (L2.CX P w) P w K mg base ["work", "due", "told", "bounds", "error"] "_law_asked" (defScope (top 55)) gA (.ref cX) A outer s H E1) g B1 E1 (defBody (top 55)) (m_law_asked f wk) := by
  intro f wk gA A outer s H E1 g B1 c wc
  unfold m_law_asked
  refine dss_cons ?_ ?_
  refine ds_tgo (i := 2) (j := 3) c.calm sc_law_asked.nd (fun B2 => ?_) (.inr rfl) (.inl rfl)
  refine da_cons ?_ ?_
  refine de_call f_law_bounds c (by decide) (by rfl) ?_
  refine da_cons ?_ ?_
  exact de_var (i := 1)
  exact da_nil
  exact da_nil
  refine dss_cons ?_ ?_
  refine ds_cauA2 (i := 2) CA c (by rfl) (by rfl) (show LamX.LamS (defScope (top 55)) _ from LamX.lamS_by (by decide +kernel)) rfl (fun _ _ _ _ _ => rfl) ?_ (fun A outer s H E2 f c2 => fun h1 h2 => pe_bm PySem.F.plainAttrs_list PySem.F.slot_list_append PySem.F.type_list_append mt_append h1 h2) sc_law_asked.nd
  intro A outer s H E2 f2 c2 B2 cl hF lkU
  exact wc A outer s H E2 _ f2 c2 B2 0 _ _ _ cl hF lkU rfl (.inr (.inr rfl)) rfl rfl
  refine dss_fz (i := 2) ?_
  refine dss_one ?_
  refine ds_rt ?_
  refine de_if ?_ ?_ ?_
  refine dt_ne c ?_ ?_
  exact de_var (i := 3)
  refine de_lst ?_
  exact da_nil
  refine dc_eq c ?_ ?_
  refine de_call f_law_word c (by decide) (by rfl) ?_
  refine da_cons ?_ ?_
  exact de_var (i := 4)
  exact da_nil
  refine de_ix ?_ ?_
  exact de_var (i := 3)
  exact de_int
  refine de_and ?_ ?_
  refine dc_is ?_ ?_
  exact de_var (i := 4)
  exact de_non
  refine de_one ?_
  refine de_call f_law_says c (by decide) (by rfl) ?_
  refine da_cons ?_ ?_
  refine de_ix ?_ ?_
  exact de_var (i := 2)
  exact de_int
  refine da_cons ?_ ?_
  exact de_var (i := 1)
  exact da_nil
theorem sc_law_is_told : FnScope ["own"] ["own"] (defScope (top 56)) := ⟨rfl, rfl, rfl, by decide +kernel, rfl, by decide +kernel, by decide +kernel⟩
def m_law_is_told : SM := (sRt (e2 dEq (eF 1 F_law_bounds (aCons (eVar 0) aNil)) (eLst aNil)))
theorem k_law_is_told (V : Vx P w K mg base T) (f_law_bounds : FnD P w K mg base T 1 "_law_bounds" (top 51) ["own"] F_law_bounds) (i : ∀ ds Q Z, F_law_is_told ds Q Z → fnW 1 1 m_law_is_told ds Q Z) : FnD P w K mg base T 2 "_law_is_told" (top 56) ["own"] F_law_is_told :=
  fnD_mk V.d__law_is_told sc_law_is_told (fun _ _ _ _ _ _ us hl => match us, hl with | [_], _ => rfl) (fun f cdv A outer s H E g B c => by
  unfold m_law_is_told
  refine dss_one ?_
  refine ds_rt ?_
  refine dc_eq c ?_ ?_
  refine de_call f_law_bounds c (by decide) (by rfl) ?_
  refine da_cons ?_ ?_
  exact de_var (i := 0)
  exact da_nil
  refine de_lst ?_
  exact da_nil) i
theorem sc_law_brackets_right : FnScope ["letters", "first", "second", "third", "shared", "whole", "times"] ["letters", "first", "second", "third"] (defScope (top 57)) := ⟨rfl, rfl, rfl, by decide +kernel, rfl, by decide +kernel, by decide +kernel⟩
def m_law_brackets_right : SM := (sSq (sTg (tg3 4 5 6) (eTup (aCons (eF 2 F_law_met (aCons (eVar 1) (aCons (eVar 2) aNil))) (aCons (eF 1 F_law_least (aCons (e2 dAdd (eVar 1) (eVar 2)) aNil)) (aCons (eF 2 F_law_products (aCons (eVar 1) (aCons (eVar 2) aNil))) aNil)))))
  (sSq (sIf (tAn (tTru (eF 1 F_law_is_told (aCons (eVar 4) aNil))) (tNt (tTru (eAsk2 5 m_law_asked (eF 3 F_stairs_both (aCons (eVar 0) (aCons (eVar 4) (aCons (eVar 3) aNil)))) (eF 2 F_law_met (aCons (eVar 1) (aCons (eF 2 F_law_met (aCons (eVar 2) (aCons (eVar 3) aNil))) aNil))))))) (sRt (eC (.bl false))) sNx)
  (sSq (sIf (tAn (tTru (eF 1 F_law_is_told (aCons (eVar 5) aNil))) (tNt (tTru (eAsk2 5 m_law_asked (eF 3 F_stairs_sum (aCons (eVar 0) (aCons (eVar 5) (aCons (eVar 3) aNil)))) (eF 1 F_law_least (aCons (e2 dAdd (eVar 1) (eF 1 F_law_least (aCons (e2 dAdd (eVar 2) (eVar 3)) aNil))) aNil)))))) (sRt (eC (.bl false))) sNx)
  (sSq (sIf (tAn (tTru (eF 1 F_law_is_told (aCons (eVar 6) aNil))) (tNt (tTru (eAsk2 5 m_law_asked (eF 3 F_stairs_times (aCons (eVar 0) (aCons (eVar 6) (aCons (eVar 3) aNil)))) (eF 2 F_law_products (aCons (eVar 1) (aCons (eF 2 F_law_products (aCons (eVar 2) (aCons (eVar 3) aNil))) aNil))))))) (sRt (eC (.bl false))) sNx)
  (sSq (sIf (tAn (tTru (eF 1 F_law_is_told (aCons (eVar 5) aNil))) (tNt (tTru (eAsk2 5 m_law_asked (eF 3 F_stairs_both (aCons (eVar 0) (aCons (eVar 5) (aCons (eVar 3) aNil)))) (eF 1 F_law_least (aCons (e2 dAdd (eF 2 F_law_met (aCons (eVar 1) (aCons (eVar 3) aNil))) (eF 2 F_law_met (aCons (eVar 2) (aCons (eVar 3) aNil)))) aNil)))))) (sRt (eC (.bl false))) sNx)
  (sSq (sIf (tAn (tTru (eF 1 F_law_is_told (aCons (eVar 4) aNil))) (tNt (tTru (eAsk2 5 m_law_asked (eF 3 F_stairs_sum (aCons (eVar 0) (aCons (eVar 4) (aCons (eVar 3) aNil)))) (eF 2 F_law_met (aCons (eF 1 F_law_least (aCons (e2 dAdd (eVar 1) (eVar 3)) aNil)) (aCons (eF 1 F_law_least (aCons (e2 dAdd (eVar 2) (eVar 3)) aNil)) aNil))))))) (sRt (eC (.bl false))) sNx)
  (sRt (eOr (eNot (eF 1 F_law_is_told (aCons (eVar 5) aNil))) (eAsk2 5 m_law_asked (eF 3 F_stairs_times (aCons (eVar 0) (aCons (eVar 5) (aCons (eVar 3) aNil)))) (eF 1 F_law_least (aCons (e2 dAdd (eF 2 F_law_products (aCons (eVar 1) (aCons (eVar 3) aNil))) (eF 2 F_law_products (aCons (eVar 2) (aCons (eVar 3) aNil)))) aNil)))))))))))
theorem k_law_brackets_right {gA cX PX gQ cQ PQ : Addr} (V : Vx P w K mg base T) (CC : LamD K mg base T "_law_brackets_right" (top 57) gA cX PX "_law_brackets_right.<locals>.<lambda>") (LQ : LamD K mg base T "_law_asked" (top 55) gQ cQ PQ "_law_asked.<locals>.<lambda>") (hAsk : ∀ (f : Nat) (wk : W D) (gA : Addr) (A : Around) (outer : List Env) (s : Shared) (H : Hp) (E1 : XK) (g : Gd) (B1 : Hp × Hp), CxK T 12 (cxOf (L2.CX P w) P w K mg base ["work", "due", "told", "bounds", "error"] "_law_asked" (defScope (top 55)) gA (.ref cQ) A outer s H E1) g E1 → WorkC T 10 (cxOf (L2.CX P w) P w K mg base ["work", "due", "told", "bounds", "error"] "_law_asked" (defScope (top 55)) gA (.ref cQ) A outer s H E1) g B1 f wk → DSs (cxOf (L2.CX P w) P w K mg base ["work", "due", "told", "bounds", "error"] "_law_asked" (defScope (top 55)) gA (.ref cQ) A outer s H E1) g B1 E1 (defBody (top 55)) (m_law_asked f wk)) (f_stairs_sum : FnD P w K mg base T 7 "stairs_sum" (top 31) ["letters", "one", "other"] F_stairs_sum) (f_stairs_both : FnD P w K mg base T 7 "stairs_both" (top 32) ["letters", "one", "other"] F_stairs_both) (f_stairs_times : FnD P w K mg base T 7 "stairs_times" (top 33) ["letters", "one", "other"] F_stairs_times) (f_law_least : FnD P w K mg base T 2 "_law_least" (top 44) ["some"] F_law_least) (f_law_products : FnD P w K mg base T 3 "_law_products" (top 52) ["first", "second"] F_law_products) (f_law_met : FnD P w K mg base T 3 "_law_met" (top 53) ["first", "second"] F_law_met) (f_law_is_told : FnD P w K mg base T 2 "_law_is_told" (top 56) ["own"] F_law_is_told) (i : ∀ ds Q Z, F_law_brackets_right ds Q Z → fnW 7 4 m_law_brackets_right ds Q Z) : FnD P w K mg base T 14 "_law_brackets_right" (top 57) ["letters", "first", "second", "third"] F_law_brackets_right :=
  fnD_C CC sc_law_brackets_right (fun _ _ _ _ _ _ us hl => match us, hl with | [_, _, _, _], _ => rfl) (fun A outer s H E g B c => by
  unfold m_law_brackets_right
  refine dss_cons ?_ ?_
  refine ds_tg ?_ (pg_tup (by exact c.calm) (pgs_cons (pg_name (i := 4) sc_law_brackets_right.nd rfl (.inr rfl)) (pgs_cons (pg_name (i := 5) sc_law_brackets_right.nd rfl (.inr rfl)) (pgs_cons (pg_name (i := 6) sc_law_brackets_right.nd rfl (.inr rfl)) pgs_nil)))) (tg3_ok 4 5 6)
  refine de_tup ?_
  refine da_cons ?_ ?_
  refine de_call f_law_met c (by decide) (by rfl) ?_
  refine da_cons ?_ ?_
  exact de_var (i := 1)
  refine da_cons ?_ ?_
  exact de_var (i := 2)
  exact da_nil
  refine da_cons ?_ ?_
  refine de_call f_law_least c (by decide) (by rfl) ?_
  refine da_cons ?_ ?_
  refine de_add ?_ ?_
  exact de_var (i := 1)
  exact de_var (i := 2)
  exact da_nil
  refine da_cons ?_ ?_
  refine de_call f_law_products c (by decide) (by rfl) ?_
  refine da_cons ?_ ?_
  exact de_var (i := 1)
  refine da_cons ?_ ?_
  exact de_var (i := 2)
  exact da_nil
  exact da_nil
  refine dss_cons ?_ ?_
  refine ds_if ?_ ?_ ?_
  refine dw_t ?_
  refine dw_and ?_ ?_
  refine dt_tru ?_
  refine de_call f_law_is_told c (by decide) (by rfl) ?_
  refine da_cons ?_ ?_
  exact de_var (i := 4)
  exact da_nil
  refine dw_and1 ?_
  refine dt_not ?_
  refine dt_tru ?_
  refine de_asked (j := 9) (c.mono (by decide)) (by rfl) LQ (fun _ _ _ _ _ _ us hl => match us, hl with | [_, _], _ => rfl) sc_law_asked CC (by rfl) (show LamX.LamS (defScope (top 57)) _ from LamX.lamS_by (by decide +kernel)) rfl (fun _ _ _ _ _ => rfl) (fun f wk A outer s H E1 B1 c1 w1 => hAsk f wk _ A outer s H E1 _ B1 c1 w1) ?_ ?_
  intro A outer s H E2 f c2 B2 cl
  refine de_call f_stairs_both cl (by decide) (by rfl) ?_
  refine da_cons ?_ ?_
  exact de_var (i := 0)
  refine da_cons ?_ ?_
  exact de_var (i := 4)
  refine da_cons ?_ ?_
  exact de_var (i := 3)
  exact da_nil
  intro B2
  have c3 := c
  refine de_call f_law_met c3 (by decide) (by rfl) ?_
  refine da_cons ?_ ?_
  exact de_var (i := 1)
  refine da_cons ?_ ?_
  refine de_call f_law_met c3 (by decide) (by rfl) ?_
  refine da_cons ?_ ?_
  exact de_var (i := 2)
  refine da_cons ?_ ?_
  exact de_var (i := 3)
  exact da_nil
  exact da_nil
  refine dss_one ?_
  refine ds_rt ?_
  exact de_bl
  exact dss_nil
  refine dss_cons ?_ ?_
  refine ds_if ?_ ?_ ?_
  refine dw_t ?_
  refine dw_and ?_ ?_
  refine dt_tru ?_
  refine de_call f_law_is_told c (by decide) (by rfl) ?_
  refine da_cons ?_ ?_
  exact de_var (i := 5)
  exact da_nil
  refine dw_and1 ?_
  refine dt_not ?_
  refine dt_tru ?_
  refine de_asked (j := 9) (c.mono (by decide)) (by rfl) LQ (fun _ _ _ _ _ _ us hl => match us, hl with | [_, _], _ => rfl) sc_law_asked CC (by rfl) (show LamX.LamS (defScope (top 57)) _ from LamX.lamS_by (by decide +kernel)) rfl (fun _ _ _ _ _ => rfl) (fun f wk A outer s H E1 B1 c1 w1 => hAsk f wk _ A outer s H E1 _ B1 c1 w1) ?_ ?_
  intro A outer s H E2 f c2 B2 cl
  refine de_call f_stairs_sum cl (by decide) (by rfl) ?_
  refine da_cons ?_ ?_
  exact de_var (i := 0)
  refine da_cons ?_ ?_
  exact de_var (i := 5)
  refine da_cons ?_ ?_
  exact de_var (i := 3)
  exact da_nil
  intro B2
  have c3 := c
  refine de_call f_law_least c3 (by decide) (by rfl) ?_
  refine da_cons ?_ ?_
  refine de_add ?_ ?_
  exact de_var (i := 1)
  refine de_call f_law_least c3 (by decide) (by rfl) ?_
  refine da_cons ?_ ?_
  refine de_add ?_ ?_
  exact de_var (i := 2)
  exact de_var (i := 3)
  exact da_nil
  exact da_nil
  refine dss_one ?_
  refine ds_rt ?_
  exact de_bl
  exact dss_nil
  refine dss_cons ?_ ?_
  refine ds_if ?_ ?_ ?_
  refine dw_t ?_
  refine dw_and ?_ ?_
  refine dt_tru ?_
  refine de_call f_law_is_told c (by decide) (by rfl) ?_
  refine da_cons ?_ ?_
  exact de_var (i := 6)
  exact da_nil
  refine dw_and1 ?_
  refine dt_not ?_
  refine dt_tru ?_
  refine de_asked (j := 9) (c.mono (by decide)) (by rfl) LQ (fun _ _ _ _ _ _ us hl => match us, hl with | [_, _], _ => rfl) sc_law_asked CC (by rfl) (show LamX.LamS (defScope (top 57)) _ from LamX.lamS_by (by decide +kernel)) rfl (fun _ _ _ _ _ => rfl) (fun f wk A outer s H E1 B1 c1 w1 => hAsk f wk _ A outer s H E1 _ B1 c1 w1) ?_ ?_
  intro A outer s H E2 f c2 B2 cl
  refine de_call f_stairs_times cl (by decide) (by rfl) ?_
  refine da_cons ?_ ?_
  exact de_var (i := 0)
  refine da_cons ?_ ?_
  exact de_var (i := 6)
  refine da_cons ?_ ?_
  exact de_var (i := 3)
  exact da_nil
  intro B2
  have c3 := c
  refine de_call f_law_products c3 (by decide) (by rfl) ?_
  refine da_cons ?_ ?_
  exact de_var (i := 1)
  refine da_cons ?_ ?_
  refine de_call f_law_products c3 (by decide) (by rfl) ?_
  refine da_cons ?_ ?_
  exact de_var (i := 2)
  refine da_cons ?_ ?_
  exact de_var (i := 3)
  exact da_nil
  exact da_nil
  refine dss_one ?_
  refine ds_rt ?_
  exact de_bl
  exact dss_nil
  refine dss_cons ?_ ?_
  refine ds_if ?_ ?_ ?_
  refine dw_t ?_
  refine dw_and ?_ ?_
  refine dt_tru ?_
  refine de_call f_law_is_told c (by decide) (by rfl) ?_
  refine da_cons ?_ ?_
  exact de_var (i := 5)
  exact da_nil
  refine dw_and1 ?_
  refine dt_not ?_
  refine dt_tru ?_
  refine de_asked (j := 9) (c.mono (by decide)) (by rfl) LQ (fun _ _ _ _ _ _ us hl => match us, hl with | [_, _], _ => rfl) sc_law_asked CC (by rfl) (show LamX.LamS (defScope (top 57)) _ from LamX.lamS_by (by decide +kernel)) rfl (fun _ _ _ _ _ => rfl) (fun f wk A outer s H E1 B1 c1 w1 => hAsk f wk _ A outer s H E1 _ B1 c1 w1) ?_ ?_
  intro A outer s H E2 f c2 B2 cl
  refine de_call f_stairs_both cl (by decide) (by rfl) ?_
  refine da_cons ?_ ?_
  exact de_var (i := 0)
  refine da_cons ?_ ?_
  exact de_var (i := 5)
  refine da_cons ?_ ?_
  exact de_var (i := 3)
  exact da_nil
  intro B2
  have c3 := c
  refine de_call f_law_least c3 (by decide) (by rfl) ?_
  refine da_cons ?_ ?_
  refine de_add ?_ ?_
  refine de_call f_law_met c3 (by decide) (by rfl) ?_
  refine da_cons ?_ ?_
  exact de_var (i := 1)
  refine da_cons ?_ ?_
  exact de_var (i := 3)
  exact da_nil
  refine de_call f_law_met c3 (by decide) (by rfl) ?_
  refine da_cons ?_ ?_
  exact de_var (i := 2)
  refine da_cons ?_ ?_
  exact de_var (i := 3)
  exact da_nil
  exact da_nil
  refine dss_one ?_
  refine ds_rt ?_
  exact de_bl
  exact dss_nil
  refine dss_cons ?_ ?_
  refine ds_if ?_ ?_ ?_
  refine dw_t ?_
  refine dw_and ?_ ?_
  refine dt_tru ?_
  refine de_call f_law_is_told c (by decide) (by rfl) ?_
  refine da_cons ?_ ?_
  exact de_var (i := 4)
  exact da_nil
  refine dw_and1 ?_
  refine dt_not ?_
  refine dt_tru ?_
  refine de_asked (j := 9) (c.mono (by decide)) (by rfl) LQ (fun _ _ _ _ _ _ us hl => match us, hl with | [_, _], _ => rfl) sc_law_asked CC (by rfl) (show LamX.LamS (defScope (top 57)) _ from LamX.lamS_by (by decide +kernel)) rfl (fun _ _ _ _ _ => rfl) (fun f wk A outer s H E1 B1 c1 w1 => hAsk f wk _ A outer s H E1 _ B1 c1 w1) ?_ ?_
  intro A outer s H E2 f c2 B2 cl
  refine de_call f_stairs_sum cl (by decide) (by rfl) ?_
  refine da_cons ?_ ?_
  exact de_var (i := 0)
  refine da_cons ?_ ?_
  exact de_var (i := 4)
  refine da_cons ?_ ?_
  exact de_var (i := 3)
  exact da_nil
  intro B2
  have c3 := c
  refine de_call f_law_met c3 (by decide) (by rfl) ?_
  refine da_cons ?_ ?_
  refine de_call f_law_least c3 (by decide) (by rfl) ?_
  refine da_cons ?_ ?_
  refine de_add ?_ ?_
  exact de_var (i := 1)
  exact de_var (i := 3)
  exact da_nil
  refine da_cons ?_ ?_
  refine de_call f_law_least c3 (by decide) (by rfl) ?_
  refine da_cons ?_ ?_
  refine de_add ?_ ?_
  exact de_var (i := 2)
  exact de_var (i := 3)
  exact da_nil
  exact da_nil
  refine dss_one ?_
  refine ds_rt ?_
  exact de_bl
  exact dss_nil
  refine dss_one ?_
  refine ds_rt ?_
  refine de_or ?_ ?_
  refine de_not ?_
  refine de_call f_law_is_told c (by decide) (by rfl) ?_
  refine da_cons ?_ ?_
  exact de_var (i := 5)
  exact da_nil
  refine de_one ?_
  refine de_asked (j := 9) (c.mono (by decide)) (by rfl) LQ (fun _ _ _ _ _ _ us hl => match us, hl with | [_, _], _ => rfl) sc_law_asked CC (by rfl) (show LamX.LamS (defScope (top 57)) _ from LamX.lamS_by (by decide +kernel)) rfl (fun _ _ _ _ _ => rfl) (fun f wk A outer s H E1 B1 c1 w1 => hAsk f wk _ A outer s H E1 _ B1 c1 w1) ?_ ?_
  intro A outer s H E2 f c2 B2 cl
  refine de_call f_stairs_times cl (by decide) (by rfl) ?_
  refine da_cons ?_ ?_
  exact de_var (i := 0)
  refine da_cons ?_ ?_
  exact de_var (i := 5)
  refine da_cons ?_ ?_
  exact de_var (i := 3)
  exact da_nil
  intro B2
  have c3 := c
  refine de_call f_law_least c3 (by decide) (by rfl) ?_
  refine da_cons ?_ ?_
  refine de_add ?_ ?_
  refine de_call f_law_products c3 (by decide) (by rfl) ?_
  refine da_cons ?_ ?_
  exact de_var (i := 1)
  refine da_cons ?_ ?_
  exact de_var (i := 3)
  exact da_nil
  refine de_call f_law_products c3 (by decide) (by rfl) ?_
  refine da_cons ?_ ?_
  exact de_var (i := 2)
  refine da_cons ?_ ?_
  exact de_var (i := 3)
  exact da_nil
  exact da_nil) i
theorem sc_law : FnScope ["script", "draw", "turn", "letters", "monomial", "lap", "ask", "odd", "first", "second", "third", "shared", "whole", "times", "over", "near", "far", "bad", "none", "words", "here", "there", "power", "more"] ["script"] (defScope (top 58)) := ⟨rfl, rfl, rfl, by decide +kernel, rfl, by decide +kernel, by decide +kernel⟩
abbrev bg_st : Stmt := (defBody (top 36)).headD (.Pass ⟨0, 0, 0, 0⟩)
abbrev bg_ex : Expr := retDict 2 ((defBody (top 36)).getD 1 (.Pass ⟨0, 0, 0, 0⟩))
theorem k_law_begun1 (V : Vx P w K mg base T) : ∀ (f : Addr) (cdv : Value) (A : Around) (outer : List Env) (s : Shared) (H : Hp) (E : XK) (g : Gd) (B : Hp × Hp), CxK T 1 (cxOf (L2.CX P w) P w K mg base ["script", "large", "cell"] "_law_begun" (defScope (top 36)) f cdv A outer s H E) g E → DS (cxOf (L2.CX P w) P w K mg base ["script", "large", "cell"] "_law_begun" (defScope (top 36)) f cdv A outer s H E) g B E bg_st m_bg1 := by
  intro f cdv A outer s H E g B c
  refine ds_lco (i := 1) c.calm sc_law_begun.nd ?_ (blkOk_by (N := ["script", "large", "cell"]) (sc := (defScope (top 36))) (own := [("cell", 2)]) (by decide +kernel)) (fun _ _ _ _ _ => (pg_name (i := 2) sc_law_begun.nd rfl (.inl rfl))) (tgN_ok 2) (by decide) (fun _ _ _ _ _ _ => ?_) (fun _ _ _ _ _ _ => ?_) (sw_true rfl rfl rfl (by decide +kernel))
  refine di_of ?_
  exact de_var (i := 0)
  refine dts_one ?_
  refine dt_ge ?_ ?_
  refine db_abs V.b_abs (by rfl) ?_
  refine da_cons ?_ ?_
  exact de_var (i := 2)
  exact da_nil
  refine de_pow ?_ ?_
  exact de_int
  exact de_int
  refine de_sub ?_ ?_
  refine db_abs V.b_abs (by rfl) ?_
  refine da_cons ?_ ?_
  exact de_var (i := 2)
  exact da_nil
  refine de_pow ?_ ?_
  exact de_int
  exact de_int
theorem k_law_begun3 (V : Vx P w K mg base T) : ∀ (f : Addr) (cdv : Value) (A : Around) (outer : List Env) (s : Shared) (H : Hp) (E : XK) (g : Gd) (B : Hp × Hp), CxK T 1 (cxOf (L2.CX P w) P w K mg base ["script", "large", "cell"] "_law_begun" (defScope (top 36)) f cdv A outer s H E) g E → DE (cxOf (L2.CX P w) P w K mg base ["script", "large", "cell"] "_law_begun" (defScope (top 36)) f cdv A outer s H E) g B E bg_ex m_bg3 := by
  intro f cdv A outer s H E g B c
  refine de_lc c.calm sc_law_begun.nd ?_ (blkOk_by (N := ["script", "large", "cell"]) (sc := (defScope (top 36))) (own := [("cell", 2)]) (by decide +kernel)) (fun _ _ _ _ _ => (pg_name (i := 2) sc_law_begun.nd rfl (.inl rfl))) (tgN_ok 2) (by decide) (fun _ _ _ _ _ _ => ?_) (fun _ _ _ _ _ _ => ?_)
  refine di_of ?_
  exact de_var (i := 0)
  exact dts_nil
  refine db_abs V.b_abs (by rfl) ?_
  refine da_cons ?_ ?_
  exact de_var (i := 2)
  exact da_nil

end
end K62

set_option Elab.async false
set_option linter.all false
set_option maxRecDepth 100000
set_option maxHeartbeats 4000000
namespace K62
open PySem PySem.Spec PyProof.Rows L2 DL
local macro_rules | `(tactic| walk_at "dd") => `(tactic| dsimp only [sSq, sRt, sRn, sDr, sSet, sPr, sTg, sIf, sBk, sCt, sNil, sApp, sFz, sNx, sLi, sPq, sDn, eVar, eC, e1, e2, eIf, aNil, aCons, eA, tNt, tAn, tOo, eAnd, eOr, eNot, eTup, eLst, tBo, eLc, eSl, oNo, oSo, eF, eFM, eCh, tTrue, iOf, iZp, iRg1, iRg2, tgN, tg2, List.set, List.getElem?_cons_zero, List.getElem?_cons_succ, List.map, List.replicate, List.append, List.cons_append, List.nil_append, fnW, noOwn, blkE, kilE, bTup, bSum, bMin2, bMax2, bLen, bLst, bSrt, bMaxT, List.getD_cons_zero, List.getD_cons_succ])
theorem i_is_number : ∀ ds Q Z, F_is_number ds Q Z → fnW 1 1 m_is_number ds Q Z := by
  intro ds Q Z h
  unfold F_is_number at h
  split at h
  · rename_i d
    obtain ⟨h1, h2⟩ := h
    cases d <;> first
      | exact absurd rfl h1
      | (simpa [m_is_number, kb1, kb2, kb3, kb4, kb5, kb6, kb7, kb8] using h2)
  · exact h.elim
theorem i_is_between : ∀ ds Q Z, F_is_between ds Q Z → fnW 3 3 m_is_between ds Q Z := by
  intro ds Q Z h
  unfold F_is_between at h
  split at h
  · rename_i d lo hi
    obtain ⟨h1, h2⟩ := h
    cases d <;> first
      | exact absurd rfl h1
      | (simp [m_is_between, F_is_number, good] at h2 ⊢; exact h2)
      | (rename_i i; simp [m_is_between, F_is_number, good] at h2 ⊢; by_cases h3 : lo ≤ i <;> simp_all <;> (intro h4; omega))
  · exact h.elim
theorem i_is_tuple : ∀ ds Q Z, F_is_tuple ds Q Z → fnW 2 2 m_is_tuple ds Q Z := by
  intro ds Q Z h
  unfold F_is_tuple at h
  split at h
  · rename_i d n
    obtain ⟨h1, h2⟩ := h
    cases d <;> first
      | exact absurd rfl h1
      | (simpa [m_is_tuple, kt1, kt2, kt3, kt4, kt5, kt6] using h2)
  · exact h.elim
theorem i_need_between : ∀ ds Q Z, F_need_between ds Q Z → fnW 4 4 m_need_between ds Q Z := by
  intro ds Q Z h
  unfold F_need_between at h
  split at h
  · rename_i d lo hi part
    obtain ⟨h1, h2⟩ := h
    refine ⟨rfl, ?_⟩
    simp [m_need_between, F_is_between]
    refine ⟨h1, ?_⟩
    cases hg : good d lo hi with
    | true =>
      rw [hg] at h2
      simpa using h2
    | false =>
      rw [hg] at h2
      simpa using h2
  · exact h.elim
theorem i_need_few : ∀ ds Q Z, F_need_few ds Q Z → fnW 2 2 m_need_few ds Q Z := by
  intro ds Q Z h
  unfold F_need_few at h
  split at h
  · rename_i n m
    refine ⟨rfl, ?_⟩
    by_cases q : m < n
    · rw [if_pos q] at h
      simp [m_need_few, q]
      exact h
    · rw [if_neg q] at h
      simp [m_need_few, q]
      exact h
  · exact h.elim
theorem i_need_letters : ∀ ds Q Z, F_need_letters ds Q Z → fnW 1 1 m_need_letters ds Q Z := by
  intro ds Q Z h
  unfold F_need_letters at h
  split at h
  · rename_i d
    refine ⟨rfl, ?_⟩
    unfold m_need_letters
    walk_at "dd"
    exact ⟨rfl, h⟩
  · exact h.elim
theorem plain_ty {d : D} (h : isPl d) : tyN d ≠ none := by
  unfold isPl at h
  cases d <;> first
    | (intro z; cases z; done)
    | cases h
theorem plains : ∀ {l : List D}, (toPys l).isSome = true → ∀ d ∈ l, isPl d
  | [], _, d, h => by cases h
  | x :: l, e, d, h => by
    unfold toPys at e
    cases q : toPy x with
    | none =>
      rw [q] at e
      cases e
    | some p =>
      rw [q] at e
      cases q2 : toPys l with
      | none =>
        rw [q2] at e
        cases e
      | some ps =>
        rcases List.mem_cons.mp h with rfl | h
        · show (toPy d).isSome = true
          rw [q]
          rfl
        · exact plains (l := l) (by rw [q2]; rfl) d h
theorem plain_tup {l : List D} (h : isPl (.tup l)) : ∀ d ∈ l, isPl d := by
  refine plains ?_
  unfold isPl toPy at h
  cases q : toPys l with
  | none =>
    rw [q] at h
    cases h
  | some ps => rfl
theorem plain_lst {l : List D} (h : isPl (.lst l)) : ∀ d ∈ l, isPl d := by
  refine plains ?_
  unfold isPl toPy at h
  cases q : toPys l with
  | none =>
    rw [q] at h
    cases h
  | some ps => rfl
theorem bolsOf_map : ∀ l : List Bool, bolsOf (l.map D.bl) = some l
  | [] => rfl
  | b :: l => by
    rw [List.map_cons]
    unfold bolsOf
    rw [bolsOf_map l]
    rfl
theorem bAll_i {l : List Bool} {P Z : D → Prop} (h : P (.bl (l.all id))) : bAll [.lst (l.map D.bl)] P Z := by
  show (match bolsOf (l.map D.bl) with
    | some bs => P (.bl (bs.all id))
    | none => False)
  rw [bolsOf_map]
  exact h
theorem bAny_i {l : List Bool} {P Z : D → Prop} (h : P (.bl (l.any id))) : bAny [.lst (l.map D.bl)] P Z := by
  show (match bolsOf (l.map D.bl) with
    | some bs => P (.bl (bs.any id))
    | none => False)
  rw [bolsOf_map]
  exact h
theorem dAnd_f {a b : EM} {env : Ev} {P Z : D → Prop} (ha : ∀ P : D → Prop, P (.bl false) → a env P Z) (h : P (.bl false)) : eAnd a b env P Z := ha _ h
theorem dAnd_t {a b : EM} {env : Ev} {P Z : D → Prop} (ha : ∀ P : D → Prop, P (.bl true) → a env P Z) (h : b env P Z) : eAnd a b env P Z := ha _ h
theorem monB_tup (l : Int) (es : List D) (most : Int) : monB l (.tup es) most = (decide ((es.length : Int) = l) && es.all fun e => good e 0 most) := rfl
theorem i_is_monomial : ∀ ds Q Z, F_is_monomial ds Q Z → fnW 4 3 m_is_monomial ds Q Z := by
  intro ds Q Z h
  unfold F_is_monomial at h
  split at h
  · rename_i l d most
    obtain ⟨⟨h1, h2⟩, h3⟩ := h
    refine ⟨rfl, ?_⟩
    show eAnd _ _ _ Q Z
    have ty := plain_ty h1
    cases d with
    | tup es =>
      by_cases q : (es.length : Int) = l
      · refine dAnd_t (fun P hp => ⟨rfl, ty, by dsimp only; rw [decide_eq_true q]; exact hp⟩) ?_
        show es.length < 16777216 ∧ _
        refine ⟨by omega, ?_⟩
        refine lcE_map (fun e => D.bl (good e 0 most)) es _ (fun e he Q2 hq => ?_) ?_
        · exact ⟨rfl, plain_ty (plain_tup h1 e he), hq⟩
        · have e1 : es.map (fun e => D.bl (good e 0 most)) = (es.map fun e => good e 0 most).map D.bl := by rw [List.map_map]; rfl
          rw [e1]
          refine bAll_i (Z := Z) ?_
          rw [monB_tup, decide_eq_true q, Bool.true_and] at h3
          rw [List.all_map]
          exact h3
      · refine dAnd_f (fun P hp => ⟨rfl, ty, by dsimp only; rw [decide_eq_false q]; exact hp⟩) ?_
        rw [monB_tup, decide_eq_false q, Bool.false_and] at h3
        exact h3
    | _ => first
      | exact absurd rfl ty
      | exact dAnd_f (fun P hp => ⟨rfl, ty, hp⟩) h3
  · exact h.elim
theorem i_need_monomial : ∀ ds Q Z, F_need_monomial ds Q Z → fnW 3 3 m_need_monomial ds Q Z := by
  intro ds Q Z h
  unfold F_need_monomial at h
  split at h
  · rename_i l d most
    obtain ⟨h1, h2⟩ := h
    refine ⟨rfl, ?_⟩
    unfold m_need_monomial
    walk_at "dd"
    refine ⟨rfl, h1, ?_⟩
    cases q : monB l d most with
    | true =>
      rw [q] at h2
      exact h2
    | false =>
      rw [q] at h2
      exact h2
  · exact h.elim
end K62

set_option Elab.async false
set_option linter.all false
set_option maxRecDepth 100000
set_option maxHeartbeats 4000000
namespace K62
open PySem PySem.Spec PyProof.Rows L2 DL
local macro_rules | `(tactic| walk_at "dd") => `(tactic| dsimp only [sSq, sRt, sRn, sDr, sSet, sPr, sTg, sIf, sBk, sCt, sNil, sApp, sFz, sNx, sLi, sPq, sDn, eVar, eC, e1, e2, eIf, aNil, aCons, eA, tNt, tAn, tOo, eAnd, eOr, eNot, eTup, eLst, tBo, eLc, eSl, oNo, oSo, eF, eFM, eCh, tTrue, iOf, iZp, iRg1, iRg2, tgN, tg2, List.set, List.getElem?_cons_zero, List.getElem?_cons_succ, List.map, List.replicate, List.append, List.cons_append, List.nil_append, fnW, noOwn, blkE, kilE, bTup, bSum, bMin2, bMax2, bLen, bLst, bSrt, bMaxT, List.getD_cons_zero, List.getD_cons_succ])
/-! ### monomials -/
theorem zlen (x y : List Int) : (List.zip x y).length ≤ x.length := by
  rw [List.length_zip]
  exact Nat.min_le_left _ _
theorem divs_zip (x y : List Int) : divs x y = ((List.zip x y).map fun p => decide (p.1 ≤ p.2)).all id := by
  unfold divs
  rw [List.zip_eq_zipWith, List.map_zipWith]
theorem lcm_zip (x y : List Int) : lcmR x y = (List.zip x y).map fun p => max p.1 p.2 := by
  unfold lcmR
  rw [List.zip_eq_zipWith, List.map_zipWith]
theorem itOf_tup {a : D} {x : List Int} (h : itOf a = some x) : a = .tup (x.map D.int) := itOf_eq h
theorem i_divides : ∀ ds Q Z, F_divides ds Q Z → fnW 4 2 m_divides ds Q Z := by
  intro ds Q Z h
  unfold F_divides at h
  split at h
  · rename_i a b
    split at h
    · rename_i x y e1 e2
      obtain ⟨hl, h⟩ := h
      rw [itOf_tup e1, itOf_tup e2]
      refine ⟨rfl, ?_⟩
      show (List.zipWith (fun x y => D.tup [x, y]) (x.map D.int) (y.map D.int)).length < 16777216 ∧ lcE _ _ _ _ (List.zipWith (fun x y => D.tup [x, y]) (x.map D.int) (y.map D.int)) _ _
      rw [zipD_rows]
      refine ⟨by rw [List.length_map]; have := zlen x y; omega, ?_⟩
      refine lcE_mapL _ (fun p => D.bl (decide (p.1 ≤ p.2))) _ _ (fun p _ => ⟨_, rfl, fun Q2 hq => by show Q2 (.bl (decide (p.1 ≤ p.2))); exact hq⟩) ?_
      rw [divs_zip] at h
      have e : (List.zip x y).map (fun p => D.bl (decide (p.1 ≤ p.2))) = ((List.zip x y).map fun p => decide (p.1 ≤ p.2)).map D.bl := by rw [List.map_map]; rfl
      rw [e]
      exact bAll_i (Z := Z) h
    · exact h.elim
  · exact h.elim
theorem max_if (i j : Int) : (if j > i then j else i) = max i j := by
  by_cases h : j > i
  · rw [if_pos h, Int.max_eq_right (by omega)]
  · rw [if_neg h, Int.max_eq_left (by omega)]
theorem i_multiple_of : ∀ ds Q Z, F_multiple_of ds Q Z → fnW 4 2 m_multiple_of ds Q Z := by
  intro ds Q Z h
  unfold F_multiple_of at h
  split at h
  · rename_i a b
    split at h
    · rename_i x y e1 e2
      obtain ⟨hl, h⟩ := h
      rw [itOf_tup e1, itOf_tup e2]
      refine ⟨rfl, ?_⟩
      show (List.zipWith (fun x y => D.tup [x, y]) (x.map D.int) (y.map D.int)).length < 16777216 ∧ lcE _ _ _ _ (List.zipWith (fun x y => D.tup [x, y]) (x.map D.int) (y.map D.int)) _ _
      rw [zipD_rows]
      refine ⟨by rw [List.length_map]; have := zlen x y; omega, ?_⟩
      refine lcE_mapL _ (fun p => D.int (max p.1 p.2)) _ _ (fun p _ => ⟨_, rfl, fun Q2 hq => ?_⟩) ?_
      · show Q2 (.int (if p.2 > p.1 then p.2 else p.1))
        rw [max_if]
        exact hq
      · rw [lcm_zip] at h
        unfold rowD at h
        rw [List.map_map] at h
        exact h
    · exact h.elim
  · exact h.elim
theorem i_law_common : ∀ ds Q Z, F_law_common ds Q Z → fnW 4 2 m_law_common ds Q Z := i_multiple_of
theorem F_div {x y : List Int} {P Z : D → Prop} (hl : x.length ≤ 1000) (h : P (.bl (divs x y))) : F_divides [rowD x, rowD y] P Z := by
  unfold F_divides
  dsimp only
  rw [itOf_row, itOf_row]
  exact ⟨hl, h⟩
theorem F_mul {x y : List Int} {P Z : D → Prop} (hl : x.length ≤ 1000) (h : P (rowD (lcmR x y))) : F_multiple_of [rowD x, rowD y] P Z := by
  unfold F_multiple_of
  dsimp only
  rw [itOf_row, itOf_row]
  exact ⟨hl, h⟩
theorem rowsOf_eq {d : D} {nss : List (List Int)} (h : rowsOf d = some nss) : d = .lst (nss.map rowD) ∨ d = .tup (nss.map rowD) := by
  cases d with
  | lst l => exact .inl (by rw [← itsOf_eq (show itsOf l = some nss from h)])
  | tup l => exact .inr (by rw [← itsOf_eq (show itsOf l = some nss from h)])
  | _ => cases h
theorem rowsOf_T (nss : List (List Int)) : rowsOf (.tup (nss.map rowD)) = some nss := itsOf_rows nss
theorem rowsOf_L (nss : List (List Int)) : rowsOf (.lst (nss.map rowD)) = some nss := itsOf_rows nss
/-- what is walked -/
theorem iOf_rows {d : D} {nss : List (List Int)} {env : Ev} {i : Nat} {P : List D → Prop} {Z : D → Prop} (h : rowsOf d = some nss) (e : env[i]? = some (.sh d)) (hp : P (nss.map rowD)) : iOf (eVar i) env P Z := by
  show (match env[i]? with
    | some (.sh d) => (match d with
      | .lst l => P l
      | .tup l => P l
      | .scr l => P (l.map D.int)
      | _ => False)
    | _ => False)
  rw [e]
  rcases rowsOf_eq h with rfl | rfl
  · exact hp
  · exact hp
theorem map_bl {α : Type} (f : α → Bool) (l : List α) : l.map (fun a => D.bl (f a)) = (l.map f).map D.bl := by
  rw [List.map_map]
  rfl
/-- any([f(x) for x in rows]) -/
theorem any_rows {l : List (List Int)} {f : List Int → Bool} {P Z : D → Prop} (h : P (.bl (l.any f))) : bAny [.lst (l.map fun a => D.bl (f a))] P Z := by
  rw [map_bl]
  refine bAny_i (Z := Z) ?_
  rw [List.any_map]
  exact h
theorem all_rows {l : List (List Int)} {f : List Int → Bool} {P Z : D → Prop} (h : P (.bl (l.all f))) : bAll [.lst (l.map fun a => D.bl (f a))] P Z := by
  rw [map_bl]
  refine bAll_i (Z := Z) ?_
  rw [List.all_map]
  exact h
theorem nub_len : ∀ l : List (List Int), (nubR l).length ≤ l.length
  | [] => Nat.le_refl _
  | x :: l => by
    have := nub_len l
    unfold nubR
    split
    · rw [List.length_cons]
      omega
    · rw [List.length_cons, List.length_cons]
      omega
theorem sort_len (l : List (List Int)) : (sortR l).length = l.length := (sortR_perm l).length_eq
theorem mem_sn {l : List (List Int)} {x : List Int} : x ∈ sortR (nubR l) ↔ x ∈ l := by
  rw [(sortR_perm (nubR l)).mem_iff, nubR_mem]
theorem filter_snoc {α : Type} (p : α → Bool) (l : List α) (x : α) : (l ++ [x]).filter p = l.filter p ++ (if p x = true then [x] else []) := by
  rw [List.filter_append]
  by_cases h : p x = true
  · rw [if_pos h, List.filter_cons_of_pos h]
    rfl
  · rw [if_neg h, List.filter_cons_of_neg h]
    rfl
theorem i_least_of : ∀ ds Q Z, F_least_of ds Q Z → fnW 5 1 m_least_of ds Q Z := by
  intro ds Q Z h
  unfold F_least_of at h
  split at h
  · rename_i d
    split at h
    · rename_i nss e1
      obtain ⟨⟨h1, h2⟩, h⟩ := h
      refine ⟨rfl, ?_⟩
      have hs : ∀ (env : Ev) (P : D → Prop), env[0]? = some (.sh d) → P (.lst ((sortR (nubR nss)).map rowD)) → eSst (eVar 0) env P Z := fun env P he hp => by
        unfold eSst eVar
        rw [he]
        have z : sstR (nss.map rowD) P := by
          unfold sstR
          rw [itsOf_rows]
          exact ⟨⟨h2, fun ns hn => (h1 ns hn).1⟩, hp⟩
        rcases rowsOf_eq e1 with rfl | rfl
        · exact z
        · exact z
      unfold m_least_of
      show sPq 1 2 (eSst (eVar 0)) [.sh d, .un, .un, .un, .un] _
      refine hs _ _ rfl ?_
      have hlen : (sortR (nubR nss)).length < 64 := by
        rw [sort_len]
        have := nub_len nss
        omega
      have hok : ∀ s ∈ sortR (nubR nss), s.length ≤ 1000 := fun s hs => (h1 s (mem_sn.mp hs)).2
      have hmin : leastS nss = minsOf (sortR (nubR nss)) := rfl
      rw [hmin] at h
      generalize sortR (nubR nss) = L at hlen hok h ⊢
      dsimp only [List.set]
      refine sSqFor_i ?_
      show iOf (eVar 1) [.sh d, .sh (.lst (L.map rowD)), .own [], .un, .un] _ Z
      refine iOf_rows (rowsOf_L L) rfl ?_
      refine forS_ind (fun ds e => ∃ dn rest, L = dn ++ rest ∧ ds = rest.map rowD ∧ e = [.sh d, .sh (.lst (L.map rowD)), .own ((dn.filter fun m => !(L.any fun o => !decide (o = m) && divs o m)).map rowD), .un, .un]) (fun e he => ?_) (fun x ds e F he hF => ?_) _ _ ⟨[], L, rfl, rfl, rfl⟩
      · obtain ⟨dn, rest, hL, hr, rfl⟩ := he
        have er : rest = [] := by
          cases rest with
          | nil => rfl
          | cons _ _ => cases hr
        rw [er, List.append_nil] at hL
        rw [← hL]
        exact h
      · obtain ⟨dn, rest, hL, hr, rfl⟩ := he
        cases rest with
        | nil => cases hr
        | cons m rest =>
          obtain ⟨rfl, rfl⟩ := List.cons.inj hr
          have hm : m ∈ L := by rw [hL]; simp
          dsimp only [tgN, List.set]
          dsimp only [sIf, tNt, tTru, eA, aCons, aNil, eLc]
          refine iOf_rows (rowsOf_L L) rfl ⟨by rw [List.length_map]; omega, ?_⟩
          refine lcE_mapL rowD (fun o => D.bl (!decide (o = m) && divs o m)) _ _ (fun o ho => ⟨_, rfl, fun Q2 hq => ?_⟩) ?_
          · walk_at "dd"
            refine dNe_row (Z := fun _ => False) ?_
            by_cases q : o = m
            · rw [decide_eq_true q] at hq ⊢
              exact hq
            · rw [decide_eq_false q] at hq ⊢
              exact ⟨rfl, F_div (hok o ho) hq⟩
          · refine any_rows (f := fun o => !decide (o = m) && divs o m) (Z := Z) ?_
            have hF2 := hF _ ⟨dn ++ [m], rest, by rw [List.append_assoc]; exact hL, rfl, rfl⟩
            rw [filter_snoc] at hF2
            cases q : L.any fun o => !decide (o = m) && divs o m with
            | true =>
              simp only [q, Bool.not_true, Bool.false_eq_true, if_false, List.append_nil] at hF2
              dsimp only [tru]
              rw [if_neg (by decide)]
              exact hF2
            | false =>
              simp only [q, Bool.not_false, if_true, List.map_append] at hF2
              dsimp only [tru]
              rw [if_pos (by decide)]
              refine ⟨?_, hF2⟩
              rw [List.length_map]
              have z := List.length_filter_le (fun m => !(L.any fun o => !decide (o = m) && divs o m)) dn
              have z2 := congrArg List.length hL
              rw [List.length_append] at z2
              omega
    · exact h.elim
  · exact h.elim
end K62

set_option Elab.async false
set_option linter.all false
set_option maxRecDepth 100000
set_option maxHeartbeats 4000000
namespace K62
open PySem PySem.Spec PyProof.Rows L2 DL
local macro_rules | `(tactic| walk_at "dd") => `(tactic| dsimp only [sSq, sRt, sRn, sDr, sSet, sPr, sTg, sIf, sBk, sCt, sNil, sApp, sFz, sNx, sLi, sPq, sDn, eVar, eC, e1, e2, eIf, aNil, aCons, eA, tNt, tAn, tOo, eAnd, eOr, eNot, eTup, eLst, tBo, eLc, eSl, oNo, oSo, eF, eFM, eCh, tTrue, iOf, iZp, iRg1, iRg2, tgN, tg2, List.set, List.getElem?_cons_zero, List.getElem?_cons_succ, List.map, List.replicate, List.append, List.cons_append, List.nil_append, fnW, noOwn, blkE, kilE, bTup, bSum, bMin2, bMax2, bLen, bLst, bSrt, bMaxT, List.getD_cons_zero, List.getD_cons_succ])
def isT : D → Bool
  | .tup _ => true
  | _ => false
theorem isi_tup {d : D} {P Z : D → Prop} (h : isPl d) (hp : P (.bl (isT d))) : bIsi ko ke [d, .ty "tuple"] P Z := by
  have ty := plain_ty h
  cases d <;> first
    | exact absurd rfl ty
    | simpa [kt1, kt2, kt3, kt4, kt5, kt6, isT] using hp
theorem monB_row {l : Int} {e : D} {most : Int} (h : monB l e most = true) : ∃ ns : List Int, e = rowD ns ∧ (ns.length : Int) = l ∧ ∀ x ∈ ns, 0 ≤ x ∧ x ≤ most := by
  cases e with
  | tup es =>
    rw [monB_tup] at h
    obtain ⟨h1, h2⟩ := Bool.and_eq_true_iff.mp h
    have hl := of_decide_eq_true h1
    have main : ∀ es : List D, (es.all fun e => good e 0 most) = true → ∃ ns : List Int, es = ns.map D.int ∧ ∀ x ∈ ns, 0 ≤ x ∧ x ≤ most := by
      intro es
      induction es with
      | nil => exact fun _ => ⟨[], rfl, fun x hx => by cases hx⟩
      | cons e es ih =>
        intro h
        rw [List.all_cons] at h
        obtain ⟨a1, a2⟩ := Bool.and_eq_true_iff.mp h
        obtain ⟨ns, e1, e2⟩ := ih a2
        cases e with
        | int i =>
          have z := of_decide_eq_true (show decide (0 ≤ i ∧ i ≤ most) = true from a1)
          refine ⟨i :: ns, by rw [e1]; rfl, fun x hx => ?_⟩
          rcases List.mem_cons.mp hx with rfl | hx
          · exact z
          · exact e2 x hx
        | _ => cases a1
    obtain ⟨ns, e1, e2⟩ := main es h2
    subst e1
    exact ⟨ns, rfl, by rw [List.length_map] at hl; exact hl, e2⟩
  | _ => cases h
theorem row_monB {l : Int} {ns : List Int} {most : Int} (h1 : (ns.length : Int) = l) (h2 : ∀ x ∈ ns, 0 ≤ x ∧ x ≤ most) : monB l (rowD ns) most = true := by
  unfold rowD
  rw [monB_tup, List.length_map, decide_eq_true h1, Bool.true_and, List.all_map, List.all_eq_true]
  intro x hx
  exact decide_eq_true (h2 x hx)
theorem all_monB {l most : Int} : ∀ {es : List D}, (es.all fun e => monB l e most) = true → ∃ nss : List (List Int), es = nss.map rowD ∧ ∀ ns ∈ nss, (ns.length : Int) = l ∧ ∀ x ∈ ns, 0 ≤ x ∧ x ≤ most
  | [], _ => ⟨[], rfl, fun x hx => by cases hx⟩
  | e :: es, h => by
    rw [List.all_cons] at h
    obtain ⟨a1, a2⟩ := Bool.and_eq_true_iff.mp h
    obtain ⟨nss, e1, e2⟩ := all_monB a2
    obtain ⟨ns, b1, b2⟩ := monB_row a1
    refine ⟨ns :: nss, by rw [List.map_cons, ← b1, ← e1], fun x hx => ?_⟩
    rcases List.mem_cons.mp hx with rfl | hx
    · exact b2
    · exact e2 x hx
theorem mon_all {l most : Int} {nss : List (List Int)} (h : ∀ ns ∈ nss, (ns.length : Int) = l ∧ ∀ x ∈ ns, 0 ≤ x ∧ x ≤ most) : ((nss.map rowD).all fun e => monB l e most) = true := by
  rw [List.all_map, List.all_eq_true]
  intro ns hn
  exact row_monB (h ns hn).1 (h ns hn).2
theorem okR_of {l : Int} {most : Int} {nss : List (List Int)} (h1 : 1 ≤ l) (h2 : l ≤ 1000) (h : ∀ ns ∈ nss, (ns.length : Int) = l ∧ ∀ x ∈ ns, 0 ≤ x ∧ x ≤ most) : okR nss := fun ns hn => by
  have z := (h ns hn).1
  refine ⟨fun e => ?_, by omega⟩
  rw [e] at z
  simp at z
  omega
theorem stB_tup (l : Int) (es : List D) : stB l (.tup es) = (decide (1 ≤ es.length ∧ es.length ≤ 10) && (es.all (fun e => monB l e 6) && (match itsOf es with
    | some nss => decide (leastS nss = nss)
    | none => false))) := rfl
theorem F_lo_T {nss : List (List Int)} {P Z : D → Prop} (h1 : okR nss) (h2 : nss.length < 64) (h : P (rowsD (leastS nss))) : F_least_of [.tup (nss.map rowD)] P Z := by
  unfold F_least_of
  dsimp only
  rw [rowsOf_T]
  exact ⟨⟨h1, h2⟩, h⟩
theorem F_lo {d : D} {nss : List (List Int)} {P Z : D → Prop} (e : rowsOf d = some nss) (h1 : okR nss) (h2 : nss.length < 64) (h : P (rowsD (leastS nss))) : F_least_of [d] P Z := by
  unfold F_least_of
  dsimp only
  rw [e]
  exact ⟨⟨h1, h2⟩, h⟩
theorem i_is_stairs_told : ∀ ds Q Z, F_is_stairs_told ds Q Z → fnW 3 2 m_is_stairs_told ds Q Z := by
  intro ds Q Z h
  unfold F_is_stairs_told at h
  split at h
  · rename_i l d
    obtain ⟨⟨h1, h2, h3⟩, h⟩ := h
    refine ⟨rfl, ?_⟩
    unfold m_is_stairs_told
    dsimp only [sSq, sIf, tOo, tNt, tTru, eA, aCons, aNil, eVar, eC, List.map, List.replicate, List.append, List.cons_append, List.nil_append, List.getElem?_cons_zero, List.getElem?_cons_succ]
    refine isi_tup h1 ?_
    dsimp only [tru]
    cases d with
    | tup es =>
      dsimp only [isT]
      simp only [Bool.not_true, Bool.not_false, Bool.false_eq_true, ↓reduceIte]
      dsimp only [tBo, eCh, eC, eA, aCons, aNil, eVar, bLen, List.getElem?_cons_zero, List.getElem?_cons_succ]
      refine dLe_i (Z := Z) ?_
      have ev : v_MOST_STAIRS = 10 := rfl
      by_cases q1 : (1 : Int) ≤ (es.length : Int)
      · rw [decide_eq_true q1]
        dsimp only
        simp only [Bool.not_true, Bool.not_false, Bool.false_eq_true, ↓reduceIte]
        refine dLe_i (Z := Z) ?_
        rw [ev]
        by_cases q2 : (es.length : Int) ≤ 10
        · rw [decide_eq_true q2]
          dsimp only
          simp only [Bool.not_true, Bool.not_false, Bool.false_eq_true, ↓reduceIte]
          dsimp only [sNx, sRt, eAnd, eA, aCons, aNil, eLc, iOf, eVar, List.getElem?_cons_zero, List.getElem?_cons_succ]
          refine ⟨by omega, ?_⟩
          refine lcE_map (fun e => D.bl (monB l e 6)) es _ (fun e he Q2 hq => ?_) ?_
          · exact ⟨rfl, ⟨plain_tup h1 e he, h3⟩, hq⟩
          · rw [map_bl]
            refine bAll_i (Z := Z) ?_
            rw [List.all_map]
            rw [stB_tup, decide_eq_true (show 1 ≤ es.length ∧ es.length ≤ 10 by omega), Bool.true_and] at h
            have ec : (id ∘ fun e => monB l e 6) = fun e => monB l e 6 := rfl
            rw [ec]
            cases q3 : es.all fun e => monB l e 6 with
            | false =>
              rw [q3] at h
              exact h
            | true =>
              rw [q3, Bool.true_and] at h
              obtain ⟨nss, rfl, hn⟩ := all_monB q3
              rw [itsOf_rows] at h
              rw [List.length_map] at q2
              refine ⟨rfl, F_lo_T (okR_of h2 h3 hn) (by omega) ?_⟩
              exact dEq_rows (Z := Z) h
        · rw [decide_eq_false q2]
          dsimp only
          simp only [Bool.not_true, Bool.not_false, Bool.false_eq_true, ↓reduceIte]
          rw [stB_tup, decide_eq_false (show ¬ (1 ≤ es.length ∧ es.length ≤ 10) by omega), Bool.false_and] at h
          exact h
      · rw [decide_eq_false q1]
        dsimp only
        simp only [Bool.not_true, Bool.not_false, Bool.false_eq_true, ↓reduceIte]
        rw [stB_tup, decide_eq_false (show ¬ (1 ≤ es.length ∧ es.length ≤ 10) by omega), Bool.false_and] at h
        exact h
    | _ => exact h
  · exact h.elim
theorem i_need_stairs : ∀ ds Q Z, F_need_stairs ds Q Z → fnW 2 2 m_need_stairs ds Q Z := by
  intro ds Q Z h
  unfold F_need_stairs at h
  split at h
  · rename_i l d
    obtain ⟨h1, h2⟩ := h
    refine ⟨rfl, ?_⟩
    unfold m_need_stairs
    walk_at "dd"
    refine ⟨rfl, h1, ?_⟩
    cases q : stB l d with
    | true =>
      rw [q] at h2
      exact h2
    | false =>
      rw [q] at h2
      exact h2
  · exact h.elim
theorem mem_least {nss : List (List Int)} {x : List Int} (h : x ∈ leastS nss) : x ∈ nss := by
  unfold leastS minsOf at h
  exact mem_sn.mp (List.mem_filter.mp h).1
theorem least_len (nss : List (List Int)) : (leastS nss).length ≤ nss.length := by
  unfold leastS minsOf
  have z := List.length_filter_le (fun m => !((sortR (nubR nss)).any fun o => !decide (o = m) && divs o m)) (sortR (nubR nss))
  rw [sort_len] at z
  have := nub_len nss
  omega
theorem bMaxT_row {ns : List Int} {P Z : D → Prop} (h0 : ns ≠ []) (h : P (.int (maxL ns))) : bMaxT [rowD ns] P Z := by
  unfold bMaxT rowD
  dsimp only
  rw [intsOf_map]
  exact ⟨h0, h⟩
end K62

set_option Elab.async false
set_option linter.all false
set_option maxRecDepth 100000
set_option maxHeartbeats 4000000
namespace K62
open PySem PySem.Spec PyProof.Rows L2 DL
local macro_rules | `(tactic| walk_at "dd") => `(tactic| dsimp only [sSq, sRt, sRn, sDr, sSet, sPr, sTg, sIf, sBk, sCt, sNil, sApp, sFz, sNx, sLi, sPq, sDn, eVar, eC, e1, e2, eIf, aNil, aCons, eA, tNt, tAn, tOo, eAnd, eOr, eNot, eTup, eLst, tBo, eLc, eSl, oNo, oSo, eF, eFM, eCh, tTrue, iOf, iZp, iRg1, iRg2, tgN, tg2, List.set, List.getElem?_cons_zero, List.getElem?_cons_succ, List.map, List.replicate, List.append, List.cons_append, List.nil_append, fnW, noOwn, blkE, kilE, bTup, bSum, bMin2, bMax2, bLen, bLst, bSrt, bMaxT, List.getD_cons_zero, List.getD_cons_succ])
theorem good_int {a : D} {lo hi : Int} (h : good a lo hi = true) : ∃ i : Int, a = .int i ∧ lo ≤ i ∧ i ≤ hi := by
  cases a with
  | int i => exact ⟨i, rfl, of_decide_eq_true (show decide (lo ≤ i ∧ i ≤ hi) = true from h)⟩
  | _ => cases h
theorem F_nl {a : D} {p : Int → W D} {P Z : D → Prop} {R : D → Prop} (h : lets a p P Z) (hg : ∀ l : Int, a = .int l → 1 ≤ l → l ≤ 4 → p l P Z → R .non) : F_need_letters [a] R Z := by
  obtain ⟨ty, h⟩ := h
  refine ⟨ty, ?_⟩
  cases q : good a 1 4 with
  | true =>
    rw [q] at h
    obtain ⟨l, rfl, h1, h2⟩ := good_int q
    rw [if_pos rfl]
    exact hg l rfl h1 h2 h
  | false =>
    rw [q] at h
    rw [if_neg (by decide)]
    exact h
end K62

set_option Elab.async false
set_option linter.all false
set_option maxRecDepth 100000
set_option maxHeartbeats 4000000
namespace K62
open PySem PySem.Spec PyProof.Rows L2 DL
local macro_rules | `(tactic| walk_at "dd") => `(tactic| dsimp only [sSq, sRt, sRn, sDr, sSet, sPr, sTg, sIf, sBk, sCt, sNil, sApp, sFz, sNx, sLi, sPq, sDn, eVar, eC, e1, e2, eIf, aNil, aCons, eA, tNt, tAn, tOo, eAnd, eOr, eNot, eTup, eLst, tBo, eLc, eSl, oNo, oSo, eF, eFM, eCh, tTrue, iOf, iZp, iRg1, iRg2, tgN, tg2, List.set, List.getElem?_cons_zero, List.getElem?_cons_succ, List.map, List.replicate, List.append, List.cons_append, List.nil_append, fnW, noOwn, blkE, kilE, bTup, bSum, bMin2, bMax2, bLen, bLst, bSrt, bMaxT, List.getD_cons_zero, List.getD_cons_succ])
theorem i_law_mixed : ∀ ds Q Z, F_law_mixed ds Q Z → fnW 6 1 m_law_mixed ds Q Z := by
  intro ds Q Z h
  obtain ⟨rfl, h⟩ := h
  refine ⟨rfl, ?_⟩
  simp [m_law_mixed, -forS]
  intro t0 ht0
  refine ⟨by omega, fun t ht => ?_⟩
  refine forS_ind (fun ds e => (∀ d ∈ ds, ∃ g : Int, d = .int g ∧ 2147480000 < g ∧ g < 2147483648) ∧ ∃ f : Int, 0 ≤ f ∧ e = [.sh .drw, .sh (.int t), .sh (.int f), .un, .un, .un]) (fun e he => ?_) (fun d ds e F he hF => ?_) _ _ ⟨by simp, 0, by omega, rfl⟩
  · obtain ⟨_, f, hf, rfl⟩ := he
    simpa using h f hf
  · obtain ⟨hd, f, hf, rfl⟩ := he
    obtain ⟨g, rfl, g1, g2⟩ := hd d List.mem_cons_self
    have hF2 : ∀ f2 : Int, 0 ≤ f2 → F [.sh .drw, .sh (.int t), .sh (.int f2), .un, .un, .un] := fun f2 h2 => hF _ ⟨fun d' h' => hd d' (List.mem_cons_of_mem _ h'), f2, h2, rfl⟩
    simp [-forS]
    refine ⟨.inr (.inr (by omega)), ⟨by decide, by decide⟩, by omega, fun cs hc hz => ?_⟩
    refine forS_ind (fun ds e => (∀ d ∈ ds, ∃ z : Int, d = .int z) ∧ ∃ bl : Int, 0 ≤ bl ∧ bl < 2147483648 ∧ e = [.sh .drw, .sh (.int t), .sh (.int f), .sh (.int g), .sh (.int bl), .un]) (fun e he => ?_) (fun d ds e F2 he hG => ?_) _ _
      ⟨fun d hd => by obtain ⟨z, _, e⟩ := List.mem_map.mp hd; exact ⟨z, e.symm⟩, (t * 40503 + g / 13) % g, Int.emod_nonneg _ (by omega), by have := Int.emod_lt_of_pos (t * 40503 + g / 13) (show 0 < g by omega); omega, rfl⟩
    · obtain ⟨_, bl, b1, b2, rfl⟩ := he
      simp
      refine ⟨.inr (.inr (by omega)), ⟨by decide, by decide, by omega⟩, by omega, hF2 _ ?_⟩
      have z1 := Int.emod_nonneg (bl ^ 5) (show g ≠ 0 by omega)
      have z2 : 0 ≤ f * 2147483659 := Int.mul_nonneg hf (by decide)
      omega
    · obtain ⟨hd2, bl, b1, b2, rfl⟩ := he
      obtain ⟨z, rfl⟩ := hd2 d List.mem_cons_self
      simp
      refine ⟨.inr (.inr (by omega)), by omega, hG _ ⟨fun d' h' => hd2 d' (List.mem_cons_of_mem _ h'), _, Int.emod_nonneg _ (by omega), ?_, rfl⟩⟩
      have := Int.emod_lt_of_pos (bl * 69621 + z + t) (show 0 < g by omega)
      omega
theorem i_law_take : ∀ ds Q Z, F_law_take ds Q Z → fnW 3 2 m_law_take ds Q Z := by
  intro ds Q Z h
  unfold F_law_take at h
  split at h
  · rename_i n
    obtain ⟨⟨h1, h2⟩, h3⟩ := h
    refine ⟨rfl, ?_⟩
    simp [m_law_take]
    have hl : n.natAbs.log2 < 9000 := by
      unfold v_BIG at h2
      have w := (Nat.log2_lt (n := n.natAbs) (k := 200) (by omega)).mpr (by omega)
      omega
    have key : ∀ t : Int, 0 ≤ t → 0 < n ∧ ∀ t1 : Int, 0 ≤ t1 → CDivW t1 n ∧ 0 ≤ t1 / n ∧ Q (D.int (t % n)) := fun t ht => ⟨h1, fun t1 h1' => ⟨⟨h1, hl⟩, Int.ediv_nonneg h1' (by omega), h3 _ (Int.emod_nonneg _ (by omega)) (Int.emod_lt_of_pos _ h1)⟩⟩
    intro t ht
    split
    · exact fun t2 h2' => ⟨h2', key⟩
    · exact key
  · exact h.elim
theorem i_law_pick : ∀ ds Q Z, F_law_pick ds Q Z → fnW 2 2 m_law_pick ds Q Z := by
  intro ds Q Z h
  unfold F_law_pick at h
  split at h
  · rename_i l
    obtain ⟨⟨h1, h2⟩, h3⟩ := h
    refine ⟨rfl, ?_⟩
    simp [m_law_pick]
    refine ⟨⟨by omega, by unfold v_BIG; omega⟩, fun k k1 k2 => ?_⟩
    obtain ⟨d, e, hd⟩ := atI_mem k1 k2
    show (match atI l k with
      | some d => Q d
      | none => False)
    rw [e]
    exact h3 d hd
  · exact h.elim
theorem i_law_says : ∀ ds Q Z, F_law_says ds Q Z → fnW 2 2 m_law_says ds Q Z := by
  intro ds Q Z h
  unfold F_law_says at h
  split at h
  · rename_i a b
    split at h
    · rename_i p q e1 e2
      refine ⟨rfl, ?_⟩
      simp [m_law_says, e1, e2]
      exact ⟨h.1.1, h.1.2, h.2⟩
    · exact h.elim
  · exact h.elim
theorem F_take_n {P Z : D → Prop} {n : Int} (h1 : 0 < n) (h2 : n < v_BIG) (h : ∀ k : Int, 0 ≤ k → k < n → P (.int k)) : F_law_take [.drw, .int n] P Z := ⟨⟨h1, h2⟩, h⟩
theorem F_pick_l {P Z : D → Prop} {l : List D} (h1 : 0 < l.length) (h2 : l.length < 1000) (h : ∀ d ∈ l, P d) : F_law_pick [.drw, .lst l] P Z := ⟨⟨h1, h2⟩, h⟩
/-! ### [1 for ..] == [] -/
theorem ones_lay : ∀ n : Nat, toPys (List.replicate n (D.int 1)) = some (List.replicate n (PyData.int 1)) ∧ PyData.canLayAll0 (List.replicate n (PyData.int 1)) = true ∧ PyData.depthAll (List.replicate n (PyData.int 1)) = 0
  | 0 => ⟨rfl, rfl, rfl⟩
  | n + 1 => by
    obtain ⟨h1, h2, h3⟩ := ones_lay n
    rw [List.replicate_succ, List.replicate_succ]
    refine ⟨?_, ?_, ?_⟩
    · unfold toPys
      rw [h1]
      rfl
    · show (true && PyData.canLayAll0 _) = true
      rw [h2]
      rfl
    · show max 0 (PyData.depthAll _) = 0
      rw [h3]
      rfl
theorem ones_map {α : Type} (l : List α) : (l.map fun _ => D.int 1) = List.replicate l.length (D.int 1) := by
  rw [List.map_const']
theorem ones_facts {α : Type} (l : List α) : ∃ p, toPy (.lst (l.map fun _ => D.int 1)) = some p ∧ SeqAt.shaped p = true ∧ PyData.eqv p (.list []) = l.isEmpty := by
  obtain ⟨h1, h2, h3⟩ := ones_lay l.length
  refine ⟨.list (List.replicate l.length (.int 1)), ?_, ?_, ?_⟩
  · rw [ones_map]
    unfold toPy
    rw [h1]
    rfl
  · show (PyData.canLayAll0 _ && decide (PyData.depthAll _ + 1 ≤ 64)) = true
    rw [h2, h3]
    rfl
  · cases l with
    | nil => rfl
    | cons a l => rfl
theorem dEq_ones {α : Type} {l : List α} {P Z : D → Prop} (h : P (.bl l.isEmpty)) : dEq (.lst (l.map fun _ => D.int 1)) (.lst []) P Z := by
  obtain ⟨p, h1, h2, h3⟩ := ones_facts l
  show (match toPy (.lst (l.map fun _ => D.int 1)), toPy (.lst []) with
    | some p, some q => (SeqAt.shaped p = true ∧ SeqAt.shaped q = true) ∧ P (.bl (PyData.eqv p q))
    | _, _ => False)
  rw [h1]
  show (SeqAt.shaped p = true ∧ SeqAt.shaped (.list []) = true) ∧ P (.bl (PyData.eqv p (.list [])))
  rw [h3]
  exact ⟨⟨h2, rfl⟩, h⟩
theorem dNe_ones {α : Type} {l : List α} {P Z : D → Prop} (h : P (.bl (!l.isEmpty))) : dNe (.lst (l.map fun _ => D.int 1)) (.lst []) P Z := by
  obtain ⟨p, h1, h2, h3⟩ := ones_facts l
  show (match toPy (.lst (l.map fun _ => D.int 1)), toPy (.lst []) with
    | some p, some q => (SeqAt.shaped p = true ∧ SeqAt.shaped q = true) ∧ P (.bl (!PyData.eqv p q))
    | _, _ => False)
  rw [h1]
  show (SeqAt.shaped p = true ∧ SeqAt.shaped (.list []) = true) ∧ P (.bl (!PyData.eqv p (.list [])))
  rw [h3]
  exact ⟨⟨h2, rfl⟩, h⟩
theorem filter_empty {α : Type} (f : α → Bool) : ∀ l : List α, (l.filter f).isEmpty = !l.any f
  | [] => rfl
  | a :: l => by
    cases q : f a with
    | true =>
      rw [List.filter_cons_of_pos q, List.any_cons, q]
      rfl
    | false =>
      rw [List.filter_cons_of_neg (by rw [q]; decide), List.any_cons, q, Bool.false_or]
      exact filter_empty f l
theorem divs_not (x y : List Int) : ((List.zip x y).filter fun p => decide (p.2 < p.1)).isEmpty = divs x y := by
  rw [filter_empty, divs_zip, List.all_map]
  induction List.zip x y with
  | nil => rfl
  | cons p l ih =>
    rw [List.any_cons, List.all_cons, ← ih, Bool.not_or]
    congr 1
    by_cases q : p.2 < p.1
    · rw [decide_eq_true q]
      show false = decide (p.1 ≤ p.2)
      rw [decide_eq_false (by omega)]
    · rw [decide_eq_false q]
      show true = decide (p.1 ≤ p.2)
      rw [decide_eq_true (by omega)]
theorem i_law_divides : ∀ ds Q Z, F_law_divides ds Q Z → fnW 4 2 m_law_divides ds Q Z := by
  intro ds Q Z h
  unfold F_law_divides F_divides at h
  split at h
  · rename_i a b
    split at h
    · rename_i x y e1 e2
      obtain ⟨hl, h⟩ := h
      rw [itOf_tup e1, itOf_tup e2]
      refine ⟨rfl, ?_⟩
      show (List.zipWith (fun x y => D.tup [x, y]) (x.map D.int) (y.map D.int)).length < 16777216 ∧ lcE _ _ _ _ (List.zipWith (fun x y => D.tup [x, y]) (x.map D.int) (y.map D.int)) _ _
      rw [zipD_rows]
      refine ⟨by rw [List.length_map]; have := zlen x y; omega, ?_⟩
      refine lcE_fmL _ (fun p => decide (p.2 < p.1)) (fun _ => D.int 1) _ _ (fun p _ => ⟨_, rfl, fun Q2 hq => ?_, fun _ Q2 hq => hq⟩) ?_
      · show Q2 (decide (p.2 < p.1))
        exact hq
      · refine ⟨by show 0 ≤ 16777216; decide, ?_⟩
        refine dEq_ones (Z := Z) ?_
        rw [divs_not]
        exact h
    · exact h.elim
  · exact h.elim
theorem F_ldiv {x y : List Int} {P Z : D → Prop} (hl : x.length ≤ 1000) (h : P (.bl (divs x y))) : F_law_divides [rowD x, rowD y] P Z := F_div hl h
theorem i_law_stands_under : ∀ ds Q Z, F_law_stands_under ds Q Z → fnW 3 2 m_law_stands_under ds Q Z := by
  intro ds Q Z h
  unfold F_law_stands_under at h
  split at h
  · rename_i d m
    split at h
    · rename_i nss x e1 e2
      obtain ⟨⟨h1, h2⟩, h⟩ := h
      rw [itOf_eq e2]
      refine ⟨rfl, ?_⟩
      unfold m_law_stands_under
      dsimp only [sRt, DL.e2, eLc, List.map, List.replicate, List.append, List.cons_append, List.nil_append]
      refine iOf_rows e1 rfl ⟨by rw [List.length_map]; omega, ?_⟩
      refine lcE_fmL rowD (fun s => divs s x) (fun _ => D.int 1) _ _ (fun s hs => ⟨_, rfl, fun Q2 hq => ?_, fun _ Q2 hq => hq⟩) ?_
      · exact ⟨rfl, F_ldiv (h1 s hs).2 hq⟩
      · refine ⟨by show 0 ≤ 16777216; decide, ?_⟩
        refine dNe_ones (Z := Z) ?_
        rw [filter_empty, Bool.not_not]
        exact h
    · exact h.elim
  · exact h.elim
end K62

set_option Elab.async false
set_option linter.all false
set_option maxRecDepth 100000
set_option maxHeartbeats 4000000
namespace K62
open PySem PySem.Spec PyProof.Rows L2 DL
local macro_rules | `(tactic| walk_at "dd") => `(tactic| dsimp only [sSq, sRt, sRn, sDr, sSet, sPr, sTg, sIf, sBk, sCt, sNil, sApp, sFz, sNx, sLi, sPq, sDn, eVar, eC, e1, e2, eIf, aNil, aCons, eA, tNt, tAn, tOo, eAnd, eOr, eNot, eTup, eLst, tBo, eLc, eSl, oNo, oSo, eF, eFM, eCh, tTrue, iOf, iZp, iRg1, iRg2, tgN, tg2, List.set, List.getElem?_cons_zero, List.getElem?_cons_succ, List.map, List.replicate, List.append, List.cons_append, List.nil_append, fnW, noOwn, blkE, kilE, bTup, bSum, bMin2, bMax2, bLen, bLst, bSrt, bMaxT, List.getD_cons_zero, List.getD_cons_succ])
theorem bSrt_rows {d : D} {nss : List (List Int)} {P Z : D → Prop} (e : rowsOf d = some nss) (h0 : ∀ ns ∈ nss, ns ≠ []) (h : P (.lst ((sortR nss).map rowD))) : bSrt [d] P Z := by
  unfold bSrt
  rcases rowsOf_eq e with rfl | rfl
  · dsimp only
    rw [itsOf_rows]
    exact ⟨h0, h⟩
  · dsimp only
    rw [itsOf_rows]
    exact ⟨h0, h⟩
/-- nothing else of l divides it -/
def isMin (l : List (List Int)) (m : List Int) : Bool := !(l.any fun o => !decide (o = m) && divs o m)
theorem isMin_same {l l' : List (List Int)} (h : ∀ x, x ∈ l ↔ x ∈ l') (m : List Int) : isMin l m = isMin l' m := by
  unfold isMin
  congr 1
  rw [Bool.eq_iff_iff, List.any_eq_true, List.any_eq_true]
  exact ⟨fun ⟨o, a, b⟩ => ⟨o, (h o).mp a, b⟩, fun ⟨o, a, b⟩ => ⟨o, (h o).mpr a, b⟩⟩
theorem least_eq (nss : List (List Int)) : leastS nss = (sortR (nubR nss)).filter (isMin nss) := by
  unfold leastS minsOf
  refine congrArg (fun f => List.filter f (sortR (nubR nss))) ?_
  funext m
  exact isMin_same (l := sortR (nubR nss)) (l' := nss) (fun x => mem_sn) m
theorem least_srt (nss : List (List Int)) : SrtR (leastS nss) := by
  rw [least_eq]
  exact (sortR_srt _).filter _
theorem least_nodup (nss : List (List Int)) : (leastS nss).Nodup := by
  rw [least_eq]
  exact (((sortR_perm (nubR nss)).nodup_iff).mpr (nubR_nodup nss)).filter _
theorem mem_least2 {nss : List (List Int)} {x : List Int} : x ∈ leastS nss ↔ x ∈ nss ∧ isMin nss x = true := by
  rw [least_eq, List.mem_filter, mem_sn]
theorem least_uniq {nss R : List (List Int)} (h1 : SrtR R) (h2 : R.Nodup) (h3 : ∀ x, x ∈ R ↔ x ∈ nss ∧ isMin nss x = true) : R = leastS nss :=
  srtR_uniq h1 (least_srt nss) ((List.perm_ext_iff_of_nodup h2 (least_nodup nss)).mpr fun x => by rw [h3, mem_least2])
theorem i_law_least : ∀ ds Q Z, F_law_least ds Q Z → fnW 4 1 m_law_least ds Q Z := by
  intro ds Q Z h
  unfold F_law_least at h
  split at h
  · rename_i d
    split at h
    · rename_i nss e1
      obtain ⟨⟨h1, h2⟩, h⟩ := h
      refine ⟨rfl, ?_⟩
      unfold m_law_least
      dsimp only [sSq, sNil, List.map, List.replicate, List.append, List.cons_append, List.nil_append, List.set]
      refine sSqFor_i ?_
      dsimp only [iOf, eA, aCons, aNil, eVar, List.getElem?_cons_zero, List.getElem?_cons_succ]
      refine bSrt_rows (Z := Z) e1 (fun ns hn => (h1 ns hn).1) ?_
      dsimp only
      have hl := sort_len nss
      have hS := sortR_srt nss
      have hmem : ∀ x, x ∈ sortR nss ↔ x ∈ nss := fun x => (sortR_perm nss).mem_iff
      generalize sortR nss = S at hl hS hmem ⊢
      refine forS_ind (fun ds e => ∃ dn rest R, S = dn ++ rest ∧ ds = rest.map rowD ∧ R.Nodup ∧ SrtR R ∧ (∀ x, x ∈ R ↔ x ∈ dn ∧ isMin nss x = true) ∧ R.length ≤ dn.length ∧ e = [.sh d, .own (R.map rowD), .un, .un]) (fun e he => ?_) (fun x ds e F he hF => ?_) _ _ ⟨[], S, [], rfl, rfl, List.nodup_nil, List.Pairwise.nil, fun x => by simp, Nat.le_refl _, rfl⟩
      · obtain ⟨dn, rest, R, a1, a2, a3, a4, a5, a6, rfl⟩ := he
        have er : rest = [] := by
          cases rest with
          | nil => rfl
          | cons _ _ => cases a2
        rw [er, List.append_nil] at a1
        dsimp only [sFz, sRt, eA, aCons, aNil, eVar, bTup, List.getElem?_cons_zero, List.getElem?_cons_succ, List.set]
        have eR : R = leastS nss := least_uniq a4 a3 fun x => by rw [a5, ← a1, hmem]
        rw [eR]
        exact h
      · obtain ⟨dn, rest, R, a1, a2, a3, a4, a5, a6, rfl⟩ := he
        cases rest with
        | nil => cases a2
        | cons m rest =>
          obtain ⟨rfl, rfl⟩ := List.cons.inj a2
          have hz := congrArg List.length a1
          rw [List.length_append, List.length_cons] at hz
          have hm : m ∈ nss := (hmem m).mp (by rw [a1]; simp)
          have skip : (m ∈ R ∨ isMin nss m = false) → F [.sh d, .own (R.map rowD), .un, .un] := fun hs => by
            refine hF _ ⟨dn ++ [m], rest, R, by rw [List.append_assoc]; exact a1, rfl, a3, a4, fun x => ?_, by rw [List.length_append]; omega, rfl⟩
            rw [a5, List.mem_append, List.mem_singleton]
            refine ⟨fun y => ⟨.inl y.1, y.2⟩, fun ⟨y, y2⟩ => ⟨?_, y2⟩⟩
            rcases y with y | y
            · exact y
            · rcases hs with hs | hs
              · rw [y]
                exact ((a5 m).mp hs).1
              · rw [y, hs] at y2
                cases y2
          dsimp only [tgN, List.set, sIf, tAn]
          unfold tPk
          dsimp only [tBo, DL.e2, eVar, List.map, List.set, noOwn, List.getElem?_cons_zero, List.getElem?_cons_succ]
          refine dNi_row (Z := fun _ => False) ?_
          by_cases q : m ∈ R
          · rw [decide_eq_true q]
            simp only [Bool.not_true, Bool.not_false, Bool.false_eq_true, ↓reduceIte]
            exact skip (.inl q)
          · rw [decide_eq_false q]
            simp only [Bool.not_true, Bool.not_false, Bool.false_eq_true, ↓reduceIte]
            dsimp only [eLc]
            refine iOf_rows e1 rfl ⟨by rw [List.length_map]; omega, ?_⟩
            refine lcE_fmL rowD (fun o => !decide (o = m) && divs o m) (fun _ => D.int 1) _ _ (fun o ho => ⟨_, rfl, fun Q2 hq => ?_, fun _ Q2 hq => hq⟩) ?_
            · dsimp only [tAn, tBo, DL.e2, eVar, tgN, blkE, kilE, List.map, List.set, noOwn, List.getElem?_cons_zero, List.getElem?_cons_succ]
              refine dNe_row (Z := fun _ => False) ?_
              by_cases q2 : o = m
              · rw [decide_eq_true q2] at hq ⊢
                exact hq
              · rw [decide_eq_false q2] at hq ⊢
                exact ⟨rfl, F_ldiv (h1 o ho).2 hq⟩
            · refine ⟨by show 0 ≤ 16777216; decide, ?_⟩
              refine dEq_ones (Z := Z) ?_
              rw [filter_empty]
              show if isMin nss m = true then _ else _
              cases q3 : isMin nss m with
              | false =>
                rw [if_neg (by decide)]
                exact skip (.inr q3)
              | true =>
                rw [if_pos rfl]
                refine ⟨by rw [List.length_map]; omega, ?_⟩
                refine hF _ ⟨dn ++ [m], rest, R ++ [m], by rw [List.append_assoc]; exact a1, rfl, ?_, ?_, fun x => ?_, by rw [List.length_append, List.length_append]; simp; omega, by rw [List.map_append]; rfl⟩
                · rw [List.nodup_append]
                  refine ⟨a3, by simp, fun a ha b hb y => ?_⟩
                  rw [List.mem_singleton.mp hb] at y
                  exact q (by rw [← y]; exact ha)
                · rw [a1] at hS
                  refine List.pairwise_append.mpr ⟨a4, List.pairwise_singleton _ _, fun a ha b hb => ?_⟩
                  rw [List.mem_singleton.mp hb]
                  exact (List.pairwise_append.mp hS).2.2 a ((a5 a).mp ha).1 m List.mem_cons_self
                · rw [List.mem_append, a5, List.mem_append, List.mem_singleton]
                  refine ⟨fun y => ?_, fun ⟨y, y2⟩ => ?_⟩
                  · rcases y with y | y
                    · exact ⟨.inl y.1, y.2⟩
                    · rw [y]
                      exact ⟨.inr rfl, q3⟩
                  · rcases y with y | y
                    · exact .inl ⟨y, y2⟩
                    · exact .inr y
    · exact h.elim
  · exact h.elim
theorem i_law_monomial : ∀ ds Q Z, F_law_monomial ds Q Z → fnW 4 3 m_law_monomial ds Q Z := by
  intro ds Q Z h
  unfold F_law_monomial at h
  split at h
  · rename_i l high
    obtain ⟨⟨h1, h2, h3, h4⟩, h⟩ := h
    refine ⟨rfl, ?_⟩
    unfold m_law_monomial
    dsimp only [sRt, eA, aCons, aNil, eLc, iRg1, eVar, List.map, List.replicate, List.append, List.cons_append, List.nil_append, List.getElem?_cons_zero, List.getElem?_cons_succ]
    refine ⟨⟨by omega, by omega⟩, ?_⟩
    have hlen : (rgD 0 l.toNat).length = l.toNat := rgD_len 0 l.toNat
    refine ⟨by rw [hlen]; omega, ?_⟩
    have main : ∀ (ds : List D) (P : List D → Prop), (∀ ns : List Int, ns.length = ds.length → (∀ x ∈ ns, 0 ≤ x ∧ x ≤ high) → P (ns.map D.int)) →
        lcE (tgN 3) tTrue (eF 2 F_law_take (aCons (eVar 0) (aCons (DL.e2 dAdd (eVar 2) (eC (.int 1))) aNil))) (blkE [3] [.sh .drw, .sh (.int l), .sh (.int high), .un]) ds P Z := by
      intro ds
      induction ds with
      | nil => exact fun P hp => hp [] rfl fun x hx => by cases hx
      | cons d ds ih =>
        intro P hp
        unfold lcE
        dsimp only [tgN, tTrue, eF, aCons, aNil, eVar, eC, DL.e2, blkE, kilE, List.map, List.set, noOwn, List.getElem?_cons_zero, List.getElem?_cons_succ]
        rw [if_pos rfl]
        refine dAdd_i (Z := fun _ => False) ⟨rfl, F_take_n (by omega) (by unfold v_BIG; omega) fun k k1 k2 => ?_⟩
        refine ih _ fun ns e1 e2 => hp (k :: ns) (by rw [List.length_cons, e1, List.length_cons]) fun x hx => ?_
        rcases List.mem_cons.mp hx with rfl | hx
        · exact ⟨k1, by omega⟩
        · exact e2 x hx
    refine main _ _ fun ns e1 e2 => ?_
    rw [hlen] at e1
    exact h ns (by omega) e2
  · exact h.elim
end K62

set_option Elab.async false
set_option linter.all false
set_option maxRecDepth 100000
set_option maxHeartbeats 4000000
namespace K62
open PySem PySem.Spec PyProof.Rows L2 DL
local macro_rules | `(tactic| walk_at "dd") => `(tactic| dsimp only [sSq, sRt, sRn, sDr, sSet, sPr, sTg, sIf, sBk, sCt, sNil, sApp, sFz, sNx, sLi, sPq, sDn, eVar, eC, e1, e2, eIf, aNil, aCons, eA, tNt, tAn, tOo, eAnd, eOr, eNot, eTup, eLst, tBo, eLc, eSl, oNo, oSo, eF, eFM, eCh, tTrue, iOf, iZp, iRg1, iRg2, tgN, tg2, List.set, List.getElem?_cons_zero, List.getElem?_cons_succ, List.map, List.replicate, List.append, List.cons_append, List.nil_append, fnW, noOwn, blkE, kilE, bTup, bSum, bMin2, bMax2, bLen, bLst, bSrt, bMaxT, List.getD_cons_zero, List.getD_cons_succ])
def isI : D → Bool
  | .int _ => true
  | _ => false
theorem F_ll {nss : List (List Int)} {P Z : D → Prop} (h1 : okR nss) (h2 : nss.length ≤ 1000) (h : P (rowsD (leastS nss))) : F_law_least [.tup (nss.map rowD)] P Z := by
  unfold F_law_least
  dsimp only
  rw [rowsOf_T]
  exact ⟨⟨h1, h2⟩, h⟩
theorem any_not {α : Type} (f : α → Bool) : ∀ l : List α, (l.any fun x => !f x) = !l.all f
  | [] => rfl
  | a :: l => by
    rw [List.any_cons, List.all_cons, any_not f l]
    cases f a <;> cases l.all f <;> rfl
theorem i_law_no_letters : ∀ ds Q Z, F_law_no_letters ds Q Z → fnW 1 1 m_law_no_letters ds Q Z := by
  intro ds Q Z h
  unfold F_law_no_letters at h
  split at h
  · refine ⟨rfl, ?_⟩
    unfold m_law_no_letters
    walk_at "dd"
    exact ⟨by decide, by show 7 ≤ 16777216; decide, rfl, F_pick_l (by decide) (by show 7 < 1000; decide) h⟩
  · exact h.elim
end K62

set_option Elab.async false
set_option linter.all false
set_option maxRecDepth 100000
set_option maxHeartbeats 4000000
namespace K62
open PySem PySem.Spec PyProof.Rows L2 DL
local macro_rules | `(tactic| walk_at "dd") => `(tactic| dsimp only [sSq, sRt, sRn, sDr, sSet, sPr, sTg, sIf, sBk, sCt, sNil, sApp, sFz, sNx, sLi, sPq, sDn, eVar, eC, e1, e2, eIf, aNil, aCons, eA, tNt, tAn, tOo, eAnd, eOr, eNot, eTup, eLst, tBo, eLc, eSl, oNo, oSo, eF, eFM, eCh, tTrue, iOf, iZp, iRg1, iRg2, tgN, tg2, List.set, List.getElem?_cons_zero, List.getElem?_cons_succ, List.map, List.replicate, List.append, List.cons_append, List.nil_append, fnW, noOwn, blkE, kilE, bTup, bSum, bMin2, bMax2, bLen, bLst, bSrt, bMaxT, List.getD_cons_zero, List.getD_cons_succ])
theorem rpr_letters {P Z : D → Prop} (h : P (.str "'letters'")) : bRpr [.str "letters"] P Z := by
  have e : PyData.shown (.str "letters") = "'letters'" := by decide +kernel
  show ((PyData.showable (.str "letters") = true ∧ (PyData.shown (.str "letters")).length ≤ 16777216 ∧ PyData.depth (.str "letters") ≤ 100) ∧ P (.str (PyData.shown (.str "letters"))))
  rw [e]
  exact ⟨⟨by decide +kernel, by decide +kernel, by decide +kernel⟩, h⟩
theorem rpr_ten {P Z : D → Prop} (h : P (.str "10")) : bRpr [.int 10] P Z := by
  have e : PyData.shown (.int 10) = "10" := by decide +kernel
  show ((PyData.showable (.int 10) = true ∧ (PyData.shown (.int 10)).length ≤ 16777216 ∧ PyData.depth (.int 10) ≤ 100) ∧ P (.str (PyData.shown (.int 10))))
  rw [e]
  exact ⟨⟨by decide +kernel, by decide +kernel, by decide +kernel⟩, h⟩
theorem dAdd_str {x y z : Str} {P Z : D → Prop} (e : x ++ y = z) (hl : x.length + y.length ≤ 16777216) (h : P (.str z)) : dAdd (.str x) (.str y) P Z := by
  rw [← e] at h
  exact ⟨hl, h⟩
theorem bIsi_x {x c : Str} {ns : List Str} {es : List D} {b : Bool} {P Z : D → Prop} (e : ke x c = some b) (h : P (.bl b)) : bIsi ko ke [.exc x ns es, .fn c] P Z := by
  show (match ke x c with
    | some b => P (.bl b)
    | none => False)
  rw [e]
  exact h
theorem i_law_word : ∀ ds Q Z, F_law_word ds Q Z → fnW 4 1 m_law_word ds Q Z := by
  intro ds Q Z h
  unfold F_law_word at h
  split at h
  · refine ⟨rfl, ?_⟩
    exact h
  · rename_i x ns es
    refine ⟨rfl, ?_⟩
    unfold m_law_word
    dsimp only [sSq, sIf, tBo, DL.e2, eVar, eC, dIs, DL.isNon, sNx, tTru, eA, aCons, aNil, List.map, List.replicate, List.append, List.cons_append, List.nil_append, List.getElem?_cons_zero, List.getElem?_cons_succ]
    simp only [Bool.not_true, Bool.not_false, Bool.false_eq_true, ↓reduceIte]
    rcases h with ⟨rfl, rfl, h⟩ | ⟨rfl, rfl, h⟩ | ⟨rfl, h⟩ | ⟨rfl, h⟩
    · split at h
      · rename_i s
        obtain ⟨rfl, h⟩ := h
        refine bIsi_x (b := true) (by decide +kernel) ?_
        dsimp only [tru]
        simp only [↓reduceIte]
        dsimp only [sRt, DL.e2, eC, eA, aCons, aNil, eXf, eVar, List.getElem?_cons_zero]
        refine ⟨by decide +kernel, ?_⟩
        show bRpr [.str "letters"] _ _
        refine rpr_letters (Z := Z) ?_
        exact dAdd_str (Z := Z) (z := "number 'letters'") (by decide +kernel) (by decide +kernel) h
      · exact h.elim
    · split at h
      · rename_i n
        obtain ⟨rfl, h⟩ := h
        refine bIsi_x (b := false) (by decide +kernel) ?_
        dsimp only [tru]
        simp only [Bool.false_eq_true, ↓reduceIte]
        refine bIsi_x (b := true) (by decide +kernel) ?_
        dsimp only [tru]
        simp only [↓reduceIte]
        dsimp only [sRt, DL.e2, eC, eA, aCons, aNil, eXf, eVar, List.getElem?_cons_zero]
        refine ⟨by decide +kernel, ?_⟩
        show bRpr [.int 10] _ _
        refine rpr_ten (Z := Z) ?_
        exact dAdd_str (Z := Z) (z := "many 10") (by decide +kernel) (by decide +kernel) h
      · exact h.elim
    · refine bIsi_x (b := false) (by decide +kernel) ?_
      dsimp only [tru]
      simp only [Bool.false_eq_true, ↓reduceIte]
      refine bIsi_x (b := false) (by decide +kernel) ?_
      dsimp only [tru]
      simp only [Bool.false_eq_true, ↓reduceIte]
      dsimp only [sSet, eLst, eTup, aCons, aNil, eC, eA, eVar, List.getElem?_cons_zero]
      refine bIsi_x (b := true) (by decide +kernel) ⟨by show 2 ≤ 16777216; decide, ?_⟩
      refine bIsi_x (b := false) (by decide +kernel) ⟨by show 2 ≤ 16777216; decide, ?_⟩
      refine bIsi_x (b := false) (by decide +kernel) ⟨by show 2 ≤ 16777216; decide, ?_⟩
      refine bIsi_x (b := false) (by decide +kernel) ⟨by show 2 ≤ 16777216; decide, ?_⟩
      refine ⟨by show 4 ≤ 16777216; decide, ?_⟩
      show 4 < 16777216 ∧ _
      refine ⟨by decide, ?_⟩
      exact ⟨by show 1 ≤ 16777216; decide, by show 1 + 1 ≤ 16777216; decide, h⟩
    · refine bIsi_x (b := false) (by decide +kernel) ?_
      dsimp only [tru]
      simp only [Bool.false_eq_true, ↓reduceIte]
      refine bIsi_x (b := false) (by decide +kernel) ?_
      dsimp only [tru]
      simp only [Bool.false_eq_true, ↓reduceIte]
      dsimp only [sSet, eLst, eTup, aCons, aNil, eC, eA, eVar, List.getElem?_cons_zero]
      refine bIsi_x (b := false) (by decide +kernel) ⟨by show 2 ≤ 16777216; decide, ?_⟩
      refine bIsi_x (b := true) (by decide +kernel) ⟨by show 2 ≤ 16777216; decide, ?_⟩
      refine bIsi_x (b := false) (by decide +kernel) ⟨by show 2 ≤ 16777216; decide, ?_⟩
      refine bIsi_x (b := false) (by decide +kernel) ⟨by show 2 ≤ 16777216; decide, ?_⟩
      refine ⟨by show 4 ≤ 16777216; decide, ?_⟩
      show 4 < 16777216 ∧ _
      refine ⟨by decide, ?_⟩
      exact ⟨by show 1 ≤ 16777216; decide, by show 1 + 1 ≤ 16777216; decide, h⟩
  · exact h.elim
/-! ### plain data, made -/
theorem isPl_tup {l : List D} (h : ∀ d ∈ l, isPl d) : isPl (.tup l) := by
  have z : ∀ l : List D, (∀ d ∈ l, isPl d) → (toPys l).isSome = true := by
    intro l
    induction l with
    | nil => exact fun _ => rfl
    | cons d l ih =>
      intro h
      have h1 := h d List.mem_cons_self
      have h2 := ih fun x hx => h x (List.mem_cons_of_mem _ hx)
      unfold isPl at h1
      unfold toPys
      cases q : toPy d with
      | none =>
        rw [q] at h1
        cases h1
      | some p =>
        cases q2 : toPys l with
        | none =>
          rw [q2] at h2
          cases h2
        | some ps => rfl
  unfold isPl toPy
  have := z l h
  cases q : toPys l with
  | none =>
    rw [q] at this
    cases this
  | some ps => rfl
theorem isPl_lst {l : List D} (h : ∀ d ∈ l, isPl d) : isPl (.lst l) := by
  have z := isPl_tup h
  unfold isPl toPy at z ⊢
  cases q : toPys l with
  | none =>
    rw [q] at z
    cases z
  | some ps => rfl
theorem isPl_row (ns : List Int) : isPl (rowD ns) := by
  unfold isPl
  rw [toPy_row]
  rfl
theorem isPl_int (i : Int) : isPl (.int i) := rfl
theorem cut_sub {xs : List D} {lo hi : Option Int} {d : D} (h : d ∈ cutD xs lo hi) : d ∈ xs := by
  unfold DL.cutD at h
  exact List.mem_of_mem_drop (List.mem_of_mem_take h)
theorem cut_len (xs : List D) (lo hi : Option Int) : (cutD xs lo hi).length ≤ xs.length := by
  unfold DL.cutD
  rw [List.length_take, List.length_drop]
  omega
theorem dAdd_tt {x y : List D} {P Z : D → Prop} (hl : x.length + y.length ≤ 16777216) (h : P (.tup (x ++ y))) : dAdd (.tup x) (.tup y) P Z := ⟨hl, h⟩
theorem dAdd_ll {x y : List D} {P Z : D → Prop} (hl : x.length + y.length ≤ 16777216) (h : P (.lst (x ++ y))) : dAdd (.lst x) (.lst y) P Z := ⟨hl, h⟩
/-- what a stairs is -/
theorem stB_rows {l : Int} {own : D} (h : stB l own = true) : ∃ nss : List (List Int), own = rowsD nss ∧ 1 ≤ nss.length ∧ nss.length ≤ 10 ∧ (∀ ns ∈ nss, (ns.length : Int) = l ∧ ∀ x ∈ ns, 0 ≤ x ∧ x ≤ 6) ∧ leastS nss = nss := by
  cases own with
  | tup es =>
    rw [stB_tup] at h
    obtain ⟨q3, q4⟩ := Bool.and_eq_true_iff.mp h
    obtain ⟨q5, q6⟩ := Bool.and_eq_true_iff.mp q4
    obtain ⟨nss, rfl, hn⟩ := all_monB q5
    rw [itsOf_rows] at q6
    have ql := of_decide_eq_true q3
    rw [List.length_map] at ql
    exact ⟨nss, rfl, ql.1, ql.2, hn, of_decide_eq_true q6⟩
  | _ => cases h
theorem rows_stB {l : Int} {nss : List (List Int)} (h1 : 1 ≤ nss.length) (h2 : nss.length ≤ 10) (hn : ∀ ns ∈ nss, (ns.length : Int) = l ∧ ∀ x ∈ ns, 0 ≤ x ∧ x ≤ 6) : stB l (rowsD nss) = decide (leastS nss = nss) := by
  unfold rowsD
  rw [stB_tup, itsOf_rows, mon_all hn, List.length_map, decide_eq_true ⟨h1, h2⟩]
  rfl
end K62

set_option Elab.async false
set_option linter.all false
set_option maxRecDepth 100000
set_option maxHeartbeats 4000000
namespace K62
open PySem PySem.Spec PyProof.Rows L2 DL
local macro_rules | `(tactic| walk_at "dd") => `(tactic| dsimp only [sSq, sRt, sRn, sDr, sSet, sPr, sTg, sIf, sBk, sCt, sNil, sApp, sFz, sNx, sLi, sPq, sDn, eVar, eC, e1, e2, eIf, aNil, aCons, eA, tNt, tAn, tOo, eAnd, eOr, eNot, eTup, eLst, tBo, eLc, eSl, oNo, oSo, eF, eFM, eCh, tTrue, iOf, iZp, iRg1, iRg2, tgN, tg2, List.set, List.getElem?_cons_zero, List.getElem?_cons_succ, List.map, List.replicate, List.append, List.cons_append, List.nil_append, fnW, noOwn, blkE, kilE, bTup, bSum, bMin2, bMax2, bLen, bLst, bSrt, bMaxT, List.getD_cons_zero, List.getD_cons_succ])
theorem st_inv {l : Int} {X : List (List Int)} (h : stB l (rowsD X) = true) : leastS X = X := by
  unfold rowsD at h
  rw [stB_tup, itsOf_rows] at h
  obtain ⟨q3, q4⟩ := Bool.and_eq_true_iff.mp h
  obtain ⟨q5, q6⟩ := Bool.and_eq_true_iff.mp q4
  exact of_decide_eq_true q6
theorem bfalse {b : Bool} (h : b = true → False) : b = false := by
  cases b with
  | false => rfl
  | true => exact (h rfl).elim
theorem st_bad {l : Int} {es : List D} {e : D} (he : e ∈ es) (h : monB l e 6 = false) : stB l (.tup es) = false := bfalse fun q => by
  rw [stB_tup] at q
  obtain ⟨q3, q4⟩ := Bool.and_eq_true_iff.mp q
  obtain ⟨q5, q6⟩ := Bool.and_eq_true_iff.mp q4
  have z := List.all_eq_true.mp q5 e he
  rw [h] at z
  cases z
theorem flat1 {α : Type} (a : α) : ∀ n : Nat, (List.replicate n [a]).flatten = List.replicate n a
  | 0 => rfl
  | n + 1 => by
    rw [List.replicate_succ, List.flatten_cons, flat1 a n, List.replicate_succ]
    rfl
theorem st_dup {l : Int} {X Y : List (List Int)} {y : List Int} (h1 : y ∈ X) (h2 : y ∈ Y) : stB l (rowsD (X ++ Y)) = false := bfalse fun q => by
  have z := least_nodup (X ++ Y)
  rw [st_inv q] at z
  exact (List.nodup_append.mp z).2.2 y h1 y h2 rfl
theorem st_rev {l : Int} {X : List (List Int)} (h : leastS X = X) (h2 : 2 ≤ X.length) : stB l (rowsD X.reverse) = false := bfalse fun q => by
  have z1 := least_srt X.reverse
  rw [st_inv q] at z1
  have z2 := least_srt X
  have z3 := least_nodup X
  rw [h] at z2 z3
  match X, h2 with
  | a :: b :: t, _ =>
    have w1 := (List.pairwise_cons.mp z2).1 b List.mem_cons_self
    have w2 := (List.pairwise_cons.mp (List.pairwise_reverse.mp z1)).1 b List.mem_cons_self
    have e := lex_eq a b w2 w1
    exact (List.nodup_cons.mp z3).1 (by rw [e]; exact List.mem_cons_self)
theorem last_in (X : List (List Int)) (h : 1 ≤ X.length) : ∃ (Y : List (List Int)) (y : List Int), DL.cutD (X.map rowD) (some (-1)) none = Y.map rowD ∧ y ∈ X ∧ y ∈ Y := by
  have e1 : HT.sIx (X.map rowD).length 0 (some (-1)) = X.length - 1 := by
    rw [List.length_map]
    exact (show ((-1 : Int) + (X.length : Int)).toNat = X.length - 1 by omega)
  have e2 : HT.sIx (X.map rowD).length (X.map rowD).length none = X.length := by
    rw [List.length_map]
    rfl
  refine ⟨(X.drop (X.length - 1)).take 1, X[X.length - 1]'(by omega), ?_, List.getElem_mem _, ?_⟩
  · unfold DL.cutD
    rw [e1, e2, show X.length - (X.length - 1) = 1 by omega, ← List.map_drop, ← List.map_take]
  · rw [List.drop_eq_getElem_cons (by omega)]
    exact List.mem_cons_self
theorem divs_zo : ∀ n : Nat, divs (List.replicate n 0) (List.replicate n 1) = true
  | 0 => rfl
  | n + 1 => by
    rw [List.replicate_succ, List.replicate_succ]
    show (decide ((0 : Int) ≤ 1) && divs (List.replicate n 0) (List.replicate n 1)) = true
    rw [divs_zo n]
    rfl
theorem st_zo {l : Int} {n : Nat} (hn : 1 ≤ n) : stB l (rowsD [List.replicate n 0, List.replicate n 1]) = false := bfalse fun q => by
  have z : List.replicate n (1 : Int) ∈ leastS [List.replicate n 0, List.replicate n 1] := by
    rw [st_inv q]
    simp
  have w := (mem_least2.mp z).2
  unfold isMin at w
  rw [List.any_cons, divs_zo] at w
  have ne : ¬ List.replicate n (0 : Int) = List.replicate n 1 := fun e => by
    obtain ⟨m, rfl⟩ : ∃ m, n = m + 1 := ⟨n - 1, by omega⟩
    rw [List.replicate_succ, List.replicate_succ] at e
    have := (List.cons.inj e).1
    omega
  rw [decide_eq_false ne] at w
  cases w
theorem rowD_rep (n : Nat) (v : Int) : rowD (List.replicate n v) = .tup (List.replicate n (.int v)) := by
  unfold rowD
  rw [List.map_replicate]
theorem mon_rep {l : Int} {n : Nat} {v : D} (hn : 1 ≤ n) (hv : good v 0 6 = false) : monB l (.tup (List.replicate n v)) 6 = false := by
  obtain ⟨m, rfl⟩ : ∃ m, n = m + 1 := ⟨n - 1, by omega⟩
  rw [monB_tup, List.replicate_succ, List.all_cons, hv, Bool.false_and, Bool.and_false]
theorem dTm_t {l : List D} {j : Int} {P Z : D → Prop} (h0 : l ≠ []) (h1 : l.length ≤ 1000) (h2 : 1 ≤ j) (h3 : j ≤ 1000) (h : P (.tup (List.replicate j.toNat l).flatten)) : dTm (.tup l) (.int j) P Z := ⟨⟨h0, h1, h2, h3⟩, h⟩
theorem i_law_no_stairs : ∀ ds Q Z, F_law_no_stairs ds Q Z → fnW 5 3 m_law_no_stairs ds Q Z := by
  intro ds Q Z h
  unfold F_law_no_stairs at h
  split at h
  · rename_i l own
    obtain ⟨⟨l1, l2, hs⟩, h⟩ := h
    obtain ⟨nss, rfl, n1, n2, hn, hleast⟩ := stB_rows hs
    refine ⟨rfl, ?_⟩
    unfold m_law_no_stairs rowsD
    have hL : (nss.map rowD).length = nss.length := List.length_map _
    have hpl : ∀ d ∈ nss.map rowD, isPl d := fun d hd => by
      obtain ⟨ns, _, rfl⟩ := List.mem_map.mp hd
      exact isPl_row ns
    obtain ⟨Y, y, ey, y1, y2⟩ := last_in nss n1
    have c1 := cut_len (nss.map rowD) (some (-1)) none
    have hN : 1 ≤ l.toNat := by omega
    have tm : ∀ (v : D) (P : D → Prop), P (.tup (List.replicate l.toNat v)) → dTm (.tup [v]) (.int l) P Z := fun v P hp => dTm_t (by simp) (by simp) l1 (by omega) (by rw [flat1]; exact hp)
    dsimp only [sSq, sSet, DL.e2, eTup, eLst, aCons, aNil, eVar, eC, List.map, List.append, List.cons_append, List.nil_append, List.set, List.getElem?_cons_zero, List.getElem?_cons_succ]
    rw [show List.replicate (5 - 3) Slot.un = [.un, .un] from rfl]
    refine ⟨by show 1 ≤ 16777216; decide, tm _ _ ?_⟩
    dsimp only [List.set, eA, aCons, aNil, eVar, bLst, eSl, oSo, oNo, eC, List.getElem?_cons_zero, List.getElem?_cons_succ]
    refine ⟨by show 0 ≤ 16777216; decide, ?_⟩
    refine dAdd_tt (Z := Z) (by omega) ?_
    rw [ey]
    refine ⟨by show 1 ≤ 16777216; decide, dAdd_tt (Z := Z) (by rw [List.length_replicate]; show l.toNat + 1 ≤ 16777216; omega) ⟨by show 1 ≤ 16777216; decide, ?_⟩⟩
    refine ⟨by show 1 ≤ 16777216; decide, tm _ _ ⟨by show 1 ≤ 16777216; decide, ?_⟩⟩
    refine ⟨by show 1 ≤ 16777216; decide, ?_⟩
    refine ⟨by show 1 ≤ 16777216; decide, tm _ _ ⟨by show 1 ≤ 16777216; decide, ?_⟩⟩
    refine ⟨by show 1 ≤ 16777216; decide, tm _ _ ⟨by show 2 ≤ 16777216; decide, ?_⟩⟩
    refine ⟨by show 1 ≤ 16777216; decide, ?_⟩
    refine ⟨by show 1 ≤ 16777216; decide, tm _ _ ⟨by show 1 ≤ 16777216; decide, ?_⟩⟩
    refine ⟨by show 12 ≤ 16777216; decide, ?_⟩
    dsimp only [List.set, sRt, eF, DL.e2, eLst, eIf, tBo, eA, eRv, eTup, aCons, aNil, eVar, eC, bLen, List.getElem?_cons_zero, List.getElem?_cons_succ]
    have fin : ∀ r : D, isPl r → stB l r = false → F_law_pick [.drw, .lst ([D.non, .int 5, .tup [], .lst (nss.map rowD), .tup (nss.map rowD ++ Y.map rowD), .tup [.tup (List.replicate l.toNat (.int 0) ++ [.int 1])], .tup [.tup (List.replicate l.toNat (.int 7))], .tup [.lst (List.replicate l.toNat (.int 0))], .tup [.tup (List.replicate l.toNat (.bl true))], .tup [.tup (List.replicate l.toNat (.int 0)), .tup (List.replicate l.toNat (.int 1))], .tup [.str "a"], .tup [.tup (List.replicate l.toNat (.int (-1)))]] ++ [r, .tup (List.replicate l.toNat (.int 0))])] Q Z := by
      intro r r1 r2
      refine F_pick_l (by show 0 < 14; decide) (by show 14 < 1000; decide) fun d hd => ?_
      have pr : ∀ v : D, isPl v → ∀ d ∈ List.replicate l.toNat v, isPl d := fun v hv d hd => by
        rw [(List.mem_replicate.mp hd).2]
        exact hv
      have on : ∀ {x : D}, isPl x → ∀ d ∈ [x], isPl d := fun hx d hd => by
        rw [List.mem_singleton.mp hd]
        exact hx
      simp only [List.mem_append, List.mem_cons, List.not_mem_nil, or_false] at hd
      rcases hd with (rfl | rfl | rfl | rfl | rfl | rfl | rfl | rfl | rfl | rfl | rfl | rfl) | (rfl | rfl)
      · exact h _ rfl rfl
      · exact h _ rfl rfl
      · exact h _ rfl rfl
      · exact h _ (isPl_lst hpl) rfl
      · refine h _ (isPl_tup fun d hd => ?_) ?_
        · rcases List.mem_append.mp hd with hd | hd
          · exact hpl d hd
          · obtain ⟨ns, _, rfl⟩ := List.mem_map.mp hd
            exact isPl_row ns
        · have z := st_dup (l := l) y1 y2
          unfold rowsD at z
          rw [List.map_append] at z
          exact z
      · refine h _ (isPl_tup (on (isPl_tup fun d hd => (List.mem_append.mp hd).elim (pr (.int 0) rfl d) (on (x := .int 1) rfl d)))) (st_bad List.mem_cons_self ?_)
        rw [monB_tup, List.length_append, List.length_replicate, decide_eq_false (by simp; omega), Bool.false_and]
      · exact h _ (isPl_tup (on (isPl_tup (pr _ rfl)))) (st_bad List.mem_cons_self (mon_rep hN (by decide)))
      · exact h _ (isPl_tup (on (isPl_lst (pr _ rfl)))) (st_bad List.mem_cons_self rfl)
      · exact h _ (isPl_tup (on (isPl_tup (pr _ rfl)))) (st_bad List.mem_cons_self (mon_rep hN rfl))
      · refine h _ (isPl_tup fun d hd => ?_) ?_
        · simp only [List.mem_cons, List.not_mem_nil, or_false] at hd
          rcases hd with rfl | rfl
          · exact isPl_tup (pr _ rfl)
          · exact isPl_tup (pr _ rfl)
        · have z := st_zo (l := l) hN
          unfold rowsD at z
          rw [List.map_cons, List.map_cons, rowD_rep, rowD_rep] at z
          exact z
      · exact h _ rfl (st_bad List.mem_cons_self rfl)
      · exact h _ (isPl_tup (on (isPl_tup (pr _ rfl)))) (st_bad List.mem_cons_self (mon_rep hN (by decide)))
      · exact h _ r1 r2
      · refine h _ (isPl_tup (pr _ rfl)) (st_bad (e := .int 0) (List.mem_replicate.mpr ⟨by omega, rfl⟩) rfl)
    refine dGt_i (Z := Z) ?_
    dsimp only
    by_cases q : (1 : Int) < ((nss.map rowD).length : Int)
    · rw [decide_eq_true q]
      simp only [↓reduceIte]
      refine ⟨by show 2 ≤ 16777216; decide, dAdd_ll (Z := Z) (by show 12 + 2 ≤ 16777216; decide) ⟨rfl, fin _ (isPl_tup fun d hd => hpl d (List.mem_reverse.mp hd)) ?_⟩⟩
      have z := st_rev (l := l) hleast (by omega)
      unfold rowsD at z
      rw [List.map_reverse] at z
      exact z
    · rw [decide_eq_false q]
      simp only [Bool.false_eq_true, ↓reduceIte]
      exact ⟨by show 0 ≤ 16777216; decide, by show 2 ≤ 16777216; decide, dAdd_ll (Z := Z) (by show 12 + 2 ≤ 16777216; decide) ⟨rfl, fin _ rfl rfl⟩⟩
  · exact h.elim
end K62

set_option Elab.async false
set_option linter.all false
set_option maxRecDepth 100000
set_option maxHeartbeats 4000000
namespace K62
open PySem PySem.Spec PyProof.Rows L2 DL
local macro_rules | `(tactic| walk_at "dd") => `(tactic| dsimp only [sSq, sRt, sRn, sDr, sSet, sPr, sTg, sIf, sBk, sCt, sNil, sApp, sFz, sNx, sLi, sPq, sDn, eVar, eC, e1, e2, eIf, aNil, aCons, eA, tNt, tAn, tOo, eAnd, eOr, eNot, eTup, eLst, tBo, eLc, eSl, oNo, oSo, eF, eFM, eCh, tTrue, iOf, iZp, iRg1, iRg2, tgN, tg2, List.set, List.getElem?_cons_zero, List.getElem?_cons_succ, List.map, List.replicate, List.append, List.cons_append, List.nil_append, fnW, noOwn, blkE, kilE, bTup, bSum, bMin2, bMax2, bLen, bLst, bSrt, bMaxT, List.getD_cons_zero, List.getD_cons_succ])
/-! ### plain law -/
theorem least_same {X Y : List (List Int)} (h : ∀ x, x ∈ X ↔ x ∈ Y) : leastS X = leastS Y :=
  least_uniq (least_srt X) (least_nodup X) fun x => by rw [mem_least2, h, isMin_same h]
theorem divs_refl : ∀ x : List Int, divs x x = true
  | [] => rfl
  | a :: x => by
    show (decide (a ≤ a) && divs x x) = true
    rw [divs_refl x, decide_eq_true (Int.le_refl a)]
    rfl
theorem divs_trans : ∀ x y z : List Int, x.length = y.length → divs x y = true → divs y z = true → divs x z = true
  | [], _, _, _, _, _ => rfl
  | _ :: _, [], _, h, _, _ => by cases h
  | a :: x, b :: y, [], _, _, _ => rfl
  | a :: x, b :: y, c :: z, h, h1, h2 => by
    obtain ⟨p1, p2⟩ := Bool.and_eq_true_iff.mp (show (decide (a ≤ b) && divs x y) = true from h1)
    obtain ⟨q1, q2⟩ := Bool.and_eq_true_iff.mp (show (decide (b ≤ c) && divs y z) = true from h2)
    show (decide (a ≤ c) && divs x z) = true
    rw [divs_trans x y z (by simpa using h) p2 q2, decide_eq_true (Int.le_trans (of_decide_eq_true p1) (of_decide_eq_true q1))]
    rfl
theorem divs_sum : ∀ x y : List Int, x.length = y.length → divs x y = true → x ≠ y → x.sum < y.sum
  | [], [], _, _, n => absurd rfl n
  | [], _ :: _, h, _, _ => by cases h
  | _ :: _, [], h, _, _ => by cases h
  | a :: x, b :: y, h, h1, n => by
    obtain ⟨p1, p2⟩ := Bool.and_eq_true_iff.mp (show (decide (a ≤ b) && divs x y) = true from h1)
    have q1 := of_decide_eq_true p1
    rw [List.sum_cons, List.sum_cons]
    by_cases e : x = y
    · rw [e]
      have : a ≠ b := fun z => n (by rw [z, e])
      omega
    · have := divs_sum x y (by simpa using h) p2 e
      omega
theorem sum_nonneg : ∀ x : List Int, (∀ a ∈ x, 0 ≤ a) → 0 ≤ x.sum
  | [], _ => Int.le_refl _
  | a :: x, h => by
    rw [List.sum_cons]
    have := h a List.mem_cons_self
    have := sum_nonneg x fun b hb => h b (List.mem_cons_of_mem _ hb)
    omega
/-- each is divided by a least one -/
theorem least_below {X : List (List Int)} {l : Nat} (hl : ∀ x ∈ X, x.length = l ∧ ∀ a ∈ x, 0 ≤ a) : ∀ (n : Nat) (x : List Int), x ∈ X → x.sum.toNat ≤ n → ∃ y ∈ leastS X, divs y x = true
  | n, x, hx, hn => by
    by_cases q : isMin X x = true
    · exact ⟨x, mem_least2.mpr ⟨hx, q⟩, divs_refl x⟩
    · have q2 : (X.any fun o => !decide (o = x) && divs o x) = true := by
        unfold isMin at q
        simpa using q
      obtain ⟨o, ho, hd⟩ := List.any_eq_true.mp q2
      obtain ⟨d1, d2⟩ := Bool.and_eq_true_iff.mp hd
      have ne : o ≠ x := by simpa using d1
      have le : o.length = x.length := by rw [(hl o ho).1, (hl x hx).1]
      have lt := divs_sum o x le d2 ne
      have z := sum_nonneg o (hl o ho).2
      cases n with
      | zero => omega
      | succ n =>
        obtain ⟨y, hy, hd⟩ := least_below hl n o ho (by omega)
        have hyl := (hl y (mem_least hy)).1
        exact ⟨y, hy, divs_trans y o x (by rw [hyl, (hl o ho).1]) hd d2⟩
theorem under_same {X : List (List Int)} {l : Nat} (hl : ∀ x ∈ X, x.length = l ∧ ∀ a ∈ x, 0 ≤ a) {m : List Int} : ((leastS X).any fun s => divs s m) = X.any fun s => divs s m := by
  rw [Bool.eq_iff_iff, List.any_eq_true, List.any_eq_true]
  refine ⟨fun ⟨s, h1, h2⟩ => ⟨s, mem_least h1, h2⟩, fun ⟨s, h1, h2⟩ => ?_⟩
  obtain ⟨y, hy, hd⟩ := least_below hl _ s h1 (Nat.le_refl _)
  exact ⟨y, hy, divs_trans y s m (by rw [(hl y (mem_least hy)).1, (hl s h1).1]) hd h2⟩
theorem least_ne {X : List (List Int)} {l : Nat} (hl : ∀ x ∈ X, x.length = l ∧ ∀ a ∈ x, 0 ≤ a) (h : 1 ≤ X.length) : 1 ≤ (leastS X).length := by
  cases X with
  | nil => simp at h
  | cons x X =>
    obtain ⟨y, hy, _⟩ := least_below hl _ x List.mem_cons_self (Nat.le_refl _)
    exact List.length_pos_of_mem hy
/-- some of the least ones are least ones -/
theorem least_take (X : List (List Int)) (n : Nat) : leastS ((leastS X).take n) = (leastS X).take n := by
  have sub : ∀ x ∈ (leastS X).take n, x ∈ leastS X := fun x hx => List.mem_of_mem_take hx
  refine (least_uniq (List.Pairwise.sublist (List.take_sublist _ _) (least_srt X)) (List.Nodup.sublist (List.take_sublist _ _) (least_nodup X)) fun x => ?_).symm
  refine ⟨fun hx => ⟨hx, ?_⟩, fun h => h.1⟩
  have z := (mem_least2.mp (sub x hx)).2
  unfold isMin at z ⊢
  have z2 : (X.any fun o => !decide (o = x) && divs o x) = false := by simpa using z
  rw [Bool.not_eq_true', List.any_eq_false]
  intro o ho
  exact List.any_eq_false.mp z2 o (mem_least (sub o ho))
/-- only the first lot is empty -/
theorem fine_small {i : Int} (h : 0 ≤ i ∧ i ≤ 12) : FineN 4 0 (.int i) := by
  have h2 := fine_nat (n := i.toNat) (by have : (12 : Nat) < 2 ^ 300 := by decide +kernel
                                         omega)
  have e : ((i.toNat : Nat) : Int) = i := by omega
  rw [e] at h2
  refine ⟨h2.s, h2.l, ?_, Nat.le_refl _⟩
  show (if i == 0 then 0 else i.natAbs.log2 + 1) ≤ 4
  split
  · omega
  · have h3 : i.natAbs ≠ 0 := by
      rename_i z
      simpa using z
    have := (Nat.log2_lt h3 (k := 4)).mpr (by omega)
    omega
theorem fine_row {ns : List Int} (h1 : ns.length ≤ 4) (h2 : ∀ x ∈ ns, 0 ≤ x ∧ x ≤ 12) : FineN 20 1 (rowP ns) := by
  refine fine_tup (w := 4) (d := 0) (fun p hp => ?_) (by rw [List.length_map]; omega) (by decide)
  obtain ⟨x, hx, rfl⟩ := List.mem_map.mp hp
  exact fine_small (h2 x hx)
theorem fine_rows {nss : List (List Int)} (h0 : nss.length ≤ 1024) (h : ∀ ns ∈ nss, ns.length ≤ 4 ∧ ∀ x ∈ ns, 0 ≤ x ∧ x ≤ 12) : FineN 30000 2 (.tuple (nss.map rowP)) := by
  refine fine_tup (w := 20) (d := 1) (fun p hp => ?_) (by rw [List.length_map]; omega) (by decide)
  obtain ⟨x, hx, rfl⟩ := List.mem_map.mp hp
  exact fine_row (h x hx).1 (h x hx).2
theorem fine_bool (b : Bool) : FineN 30000 2 (.bool b) := by
  refine ⟨?_, ?_, ?_, ?_⟩
  · cases b <;> decide +kernel
  · cases b <;> decide +kernel
  · cases b <;> decide +kernel
  · cases b <;> decide +kernel
theorem F_says_same {P Z : D → Prop} {a b : D} {p : PyData} (ea : toPy a = some p) (eb : toPy b = some p) (hf : FineN 30000 2 p) (h : P (.bl true)) : F_law_says [a, b] P Z := by
  have z := hf.shown (by decide) (by decide)
  unfold F_law_says
  dsimp only
  rw [ea, eb]
  exact ⟨⟨z, z⟩, by rw [decide_eq_true rfl]; exact h⟩
theorem cut_one (xs : List D) : cutD xs (some 1) none = xs.drop 1 := by
  have e1 : HT.sIx xs.length 0 (some 1) = min 1 xs.length := HT.sIx_nat _ _ 1
  have e2 : HT.sIx xs.length xs.length none = xs.length := rfl
  unfold DL.cutD
  rw [e1, e2]
  cases xs with
  | nil => rfl
  | cons x xs =>
    have e3 : min 1 (x :: xs).length = 1 := by rw [List.length_cons]; omega
    rw [e3]
    refine List.take_of_length_le ?_
    rw [List.length_drop]
    exact Nat.le_refl _
theorem cut_to (xs : List D) (n : Nat) : cutD xs none (some (n : Int)) = xs.take n := by
  have e1 : HT.sIx xs.length xs.length (some (n : Int)) = min n xs.length := HT.sIx_nat _ _ n
  have e2 : HT.sIx xs.length 0 none = 0 := rfl
  unfold DL.cutD
  rw [e1, e2, List.drop_zero, Nat.sub_zero]
  by_cases h : n ≤ xs.length
  · rw [Nat.min_eq_left h]
  · rw [Nat.min_eq_right (by omega), List.take_of_length_le (Nat.le_refl _), List.take_of_length_le (by omega)]
end K62

set_option Elab.async false
set_option linter.all false
set_option maxRecDepth 100000
set_option maxHeartbeats 4000000
namespace K62
open PySem PySem.Spec PyProof.Rows L2 DL
local macro_rules | `(tactic| walk_at "dd") => `(tactic| dsimp only [sSq, sRt, sRn, sDr, sSet, sPr, sTg, sIf, sBk, sCt, sNil, sApp, sFz, sNx, sLi, sPq, sDn, eVar, eC, e1, e2, eIf, aNil, aCons, eA, tNt, tAn, tOo, eAnd, eOr, eNot, eTup, eLst, tBo, eLc, eSl, oNo, oSo, eF, eFM, eCh, tTrue, iOf, iZp, iEn, aStar, sExt, sCat, sCaA, bMaxLs, iRg1, iRg2, tgN, tg2, List.set, List.getElem?_cons_zero, List.getElem?_cons_succ, List.map, List.replicate, List.append, List.cons_append, List.nil_append, fnW, noOwn, blkE, kilE, bTup, bSum, bMin2, bMax2, bLen, bLst, bSrt, bMaxT, List.getD_cons_zero, List.getD_cons_succ])
theorem forS_fold {α β : Type} {T : D → Ev → Option Ev} {kl : List Nat} {b : SM} {k : KS} (f : α → D) (st : β → Ev) (step : β → α → β) (I : List α → β → Prop) {l : List α} {b0 : β} (h0 : I [] b0)
    (hc : ∀ dn a rest s (F : Ev → Prop), l = dn ++ a :: rest → I dn s → (I (dn ++ [a]) (step s a) → F (st (step s a))) → match T (f a) (st s) with
      | none => False
      | some e1 => b e1 { nx := fun e2 => F (kilE kl e2), rt := k.rt, bk := fun e2 => k.nx (kilE kl e2), ct := fun e2 => F (kilE kl e2), er := k.er })
    (hn : I l (l.foldl step b0) → k.nx (st (l.foldl step b0))) : forS T kl b (l.map f) (st b0) k := by
  refine forS_ind (fun ds e => ∃ dn rest, l = dn ++ rest ∧ ds = rest.map f ∧ I dn (dn.foldl step b0) ∧ e = st (dn.foldl step b0)) (fun e he => ?_) (fun x ds e F he hF => ?_) _ _ ⟨[], l, rfl, rfl, h0, rfl⟩
  · obtain ⟨dn, rest, a1, a2, a3, rfl⟩ := he
    have er : rest = [] := by
      cases rest with
      | nil => rfl
      | cons _ _ => cases a2
    rw [er, List.append_nil] at a1
    subst a1
    exact hn a3
  · obtain ⟨dn, rest, a1, a2, a3, rfl⟩ := he
    cases rest with
    | nil => cases a2
    | cons a rest =>
      obtain ⟨rfl, rfl⟩ := List.cons.inj a2
      refine hc dn a rest _ F a1 a3 fun hI => ?_
      have e : (dn ++ [a]).foldl step b0 = step (dn.foldl step b0) a := by
        rw [List.foldl_append]
        rfl
      rw [← e]
      exact hF _ ⟨dn ++ [a], rest, by rw [List.append_assoc]; exact a1, rfl, by rw [e]; exact hI, rfl⟩
theorem foldl_flat {α β : Type} (f : α → List β) : ∀ (l : List α) (acc : List β), l.foldl (fun acc m => acc ++ f m) acc = acc ++ l.flatMap f
  | [], acc => by simp
  | m :: l, acc => by
    rw [List.foldl_cons, foldl_flat f l, List.flatMap_cons, List.append_assoc]
theorem foldl_snoc {α β : Type} (f : α → β) : ∀ (l : List α) (acc : List β), l.foldl (fun acc x => acc ++ [f x]) acc = acc ++ l.map f
  | [], acc => by simp
  | x :: l, acc => by
    rw [List.foldl_cons, foldl_snoc f l, List.map_cons, List.append_assoc]
    rfl
theorem bTup_l {l : List D} {P Z : D → Prop} (h : P (.tup l)) : bTup [.lst l] P Z := h
theorem mapmap (X : List (List Int)) (Y : List (List Int)) : X.map rowD ++ Y.map rowD = (X ++ Y).map rowD := by rw [List.map_append]
theorem sDr_i {a : EM} {env : Ev} {k : KS} (h : a env (fun _ => k.nx env) k.er) : sDr a env k := h
theorem i_made_stairs : ∀ ds Q Z, F_made_stairs ds Q Z → fnW 3 1 m_made_stairs ds Q Z := by
  intro ds Q Z h
  unfold F_made_stairs at h
  split at h
  · rename_i d
    split at h
    · rename_i nss e1
      obtain ⟨⟨h1, h2⟩, h⟩ := h
      refine ⟨rfl, ?_⟩
      unfold m_made_stairs
      dsimp only [sSq, sSet, eF, aCons, aNil, eVar, List.map, List.replicate, List.append, List.cons_append, List.nil_append, List.getElem?_cons_zero, List.getElem?_cons_succ, List.set]
      refine ⟨rfl, F_lo e1 h1 h2 ?_⟩
      have hl := least_len nss
      have hm := @mem_least nss
      unfold rowsD
      unfold madeO rowsD big at h
      generalize leastS nss = L at h hl hm ⊢
      dsimp only [sIf, tTru, eA, aCons, aNil, eLc]
      refine iOf_rows (nss := L) (rowsOf_T L) rfl ⟨by rw [List.length_map]; omega, ?_⟩
      refine lcE_mapL rowD (fun ns => D.bl (decide (6 < maxL ns))) _ _ (fun ns hn => ⟨_, rfl, fun Q2 hq => ?_⟩) ?_
      · exact bMaxT_row (Z := fun _ => False) (P := fun d => dGt d (.int v_MOST_POWER) Q2 fun _ => False) (h1 ns (hm hn)).1 hq
      · refine any_rows (f := fun ns => decide (6 < maxL ns)) (Z := Z) ?_
        dsimp only [tru]
        cases e2 : L.any fun ns => decide (6 < maxL ns) with
        | true =>
          rw [e2, if_pos rfl] at h
          rw [if_pos rfl]
          exact h
        | false =>
          rw [e2, if_neg (by decide)] at h
          rw [if_neg (by decide)]
          dsimp only [sNx, sDr, eF, aCons, aNil, eA, eC, eVar, sRt, bLen, List.getElem?_cons_zero, List.getElem?_cons_succ]
          refine ⟨rfl, ?_⟩
          show if (10 : Int) < ((L.map rowD).length : Int) then Z (many 10) else Q (.tup (L.map rowD))
          rw [List.length_map]
          by_cases q : L.length ≤ 10
          · rw [if_pos q] at h
            rw [if_neg (by omega)]
            exact h
          · rw [if_neg q] at h
            rw [if_pos (by omega)]
            exact h
    · exact h.elim
  · exact h.elim
theorem F_ms {d : D} {nss : List (List Int)} {P Z : D → Prop} (e : rowsOf d = some nss) (h1 : okR nss) (h2 : nss.length < 64) (h : madeO (leastS nss) P Z) : F_made_stairs [d] P Z := by
  unfold F_made_stairs
  dsimp only
  rw [e]
  exact ⟨⟨h1, h2⟩, h⟩
theorem lets_imp {a : D} {p p' : Int → W D} {P P' Z : D → Prop} (h : lets a p P Z) (i : ∀ l : Int, a = .int l → 1 ≤ l → l ≤ 4 → p l P Z → p' l P' Z) : lets a p' P' Z := by
  obtain ⟨ty, h⟩ := h
  refine ⟨ty, ?_⟩
  cases q : good a 1 4 with
  | true =>
    rw [q, if_pos rfl] at h
    obtain ⟨l, rfl, h1, h2⟩ := good_int q
    rw [if_pos rfl]
    exact i l rfl h1 h2 h
  | false =>
    rw [q, if_neg (by decide)] at h
    rw [if_neg (by decide)]
    exact h
theorem two_imp {l : Int} {d1 d2 : D} {A A' : Prop} {Z : D → Prop} (h : two l d1 d2 A Z) (i : stB l d1 = true → stB l d2 = true → A → A') : two l d1 d2 A' Z := by
  obtain ⟨p1, h⟩ := h
  refine ⟨p1, ?_⟩
  cases q : stB l d1 with
  | false =>
    rw [q, if_neg (by decide)] at h
    rw [if_neg (by decide)]
    exact h
  | true =>
    rw [q, if_pos rfl] at h
    rw [if_pos rfl]
    obtain ⟨p2, h⟩ := h
    refine ⟨p2, ?_⟩
    cases q2 : stB l d2 with
    | false =>
      rw [q2, if_neg (by decide)] at h
      rw [if_neg (by decide)]
      exact h
    | true =>
      rw [q2, if_pos rfl] at h
      rw [if_pos rfl]
      exact i q q2 h
theorem i_need_two : ∀ ds Q Z, F_need_two ds Q Z → fnW 3 3 m_need_two ds Q Z := by
  intro ds Q Z h
  unfold F_need_two at h
  split at h
  · rename_i a d1 d2
    refine ⟨rfl, ?_⟩
    show m_need_two [.sh a, .sh d1, .sh d2] _
    unfold m_need_two
    dsimp only [sSq, sDr, eF, aCons, aNil, eVar, List.getElem?_cons_zero, List.getElem?_cons_succ]
    refine ⟨rfl, F_nl h fun l e h1 h2 hp => ?_⟩
    subst e
    obtain ⟨p1, p2⟩ := hp
    refine ⟨rfl, ⟨p1, h1, by omega⟩, ?_⟩
    cases q : stB l d1 with
    | false =>
      rw [q] at p2
      exact p2
    | true =>
      rw [q, if_pos rfl] at p2
      rw [if_pos rfl]
      obtain ⟨p3, p4⟩ := p2
      exact ⟨rfl, ⟨p3, h1, by omega⟩, p4⟩
  · exact h.elim
theorem prs_len (A B : List (List Int)) : (prsR A B).length = A.length * B.length := by
  unfold prsR
  induction A with
  | nil => simp
  | cons a A ih =>
    rw [List.flatMap_cons, List.length_append, List.length_map, ih, List.length_cons, Nat.succ_mul]
    omega
theorem i_pairs_of : ∀ ds Q Z, F_pairs_of ds Q Z → fnW 5 2 m_pairs_of ds Q Z := by
  intro ds Q Z h
  unfold F_pairs_of at h
  split at h
  · rename_i d1 d2
    split at h
    · rename_i A B e1 e2
      obtain ⟨⟨h1, h2⟩, h⟩ := h
      refine ⟨rfl, ?_⟩
      show m_pairs_of [.sh d1, .sh d2, .un, .un, .un] _
      unfold m_pairs_of
      dsimp only [sSq, sNil, List.set]
      refine sFor_i ?_
      refine iOf_rows e1 rfl ?_
      refine forS_fold (k := _) rowD (fun acc : List (List Int × List Int) => [.sh d1, .sh d2, .own (acc.map DL.pairD), .un, .un]) (fun acc a => acc ++ B.map fun b => (a, b)) (fun dn acc => acc.length = dn.length * B.length) (b0 := []) (Nat.zero_mul _).symm (fun dn a rest s F2 hl hI hF2 => ?_) (fun hI => ?_)
      · have hz := congrArg List.length hl
        rw [List.length_append, List.length_cons] at hz
        have hb : dn.length * B.length ≤ 1000 * 1000 := Nat.mul_le_mul (by omega) h2
        dsimp only [tgN, List.set, sExt, eLc, List.getElem?_cons_zero, List.getElem?_cons_succ]
        refine iOf_rows e2 rfl ⟨by rw [List.length_map]; omega, ?_⟩
        refine lcE_mapL rowD (fun b => DL.pairD (a, b)) _ _ (fun b _ => ⟨_, rfl, fun Q2 hq => ?_⟩) ?_
        · walk_at "dd"
          exact ⟨by show 2 ≤ 16777216; decide, hq⟩
        · have e : B.map (fun b => DL.pairD (a, b)) = (B.map fun b => (a, b)).map DL.pairD := by rw [List.map_map]; rfl
          rw [e]
          refine ⟨by rw [List.length_map, List.length_map, List.length_map, hI]; omega, ?_⟩
          rw [← List.map_append]
          refine hF2 ?_
          rw [List.length_append, List.length_map, hI, List.length_append, List.length_singleton, Nat.add_mul, Nat.one_mul]
      · rw [foldl_flat, List.nil_append]
        exact h
    · exact h.elim
  · exact h.elim
theorem F_po {d1 d2 : D} {A B : List (List Int)} {P Z : D → Prop} (e1 : rowsOf d1 = some A) (e2 : rowsOf d2 = some B) (h1 : A.length ≤ 1000) (h2 : B.length ≤ 1000) (h : P (.lst ((prsR A B).map DL.pairD))) : F_pairs_of [d1, d2] P Z := by
  unfold F_pairs_of
  dsimp only
  rw [e1, e2]
  exact ⟨⟨h1, h2⟩, h⟩
theorem mem_prs {A B : List (List Int)} {q : List Int × List Int} : q ∈ prsR A B ↔ q.1 ∈ A ∧ q.2 ∈ B := by
  unfold prsR
  rw [List.mem_flatMap]
  refine ⟨fun ⟨a, ha, hq⟩ => ?_, fun ⟨h1, h2⟩ => ⟨q.1, h1, List.mem_map.mpr ⟨q.2, h2, rfl⟩⟩⟩
  obtain ⟨b, hb, rfl⟩ := List.mem_map.mp hq
  exact ⟨ha, hb⟩
theorem okR_zip {A B : List (List Int)} {f : Int → Int → Int} (hA : okR A) (hB : okR B) : okR ((prsR A B).map fun q => List.zipWith f q.1 q.2) := fun ns hn => by
  obtain ⟨q, hq, rfl⟩ := List.mem_map.mp hn
  obtain ⟨h1, h2⟩ := mem_prs.mp hq
  have a := hA _ h1
  have b := hB _ h2
  have la : 0 < q.1.length := List.length_pos_iff.mpr a.1
  have lb : 0 < q.2.length := List.length_pos_iff.mpr b.1
  refine ⟨fun e => ?_, ?_⟩
  · have z : min q.1.length q.2.length = 0 := by
      have := congrArg List.length e
      rwa [List.length_zipWith] at this
    omega
  · rw [List.length_zipWith]
    omega
theorem i_met_monomials : ∀ ds Q Z, F_met_monomials ds Q Z → fnW 4 2 m_met_monomials ds Q Z := by
  intro ds Q Z h
  unfold F_met_monomials at h
  split at h
  · rename_i d1 d2
    split at h
    · rename_i A B e1 e2
      obtain ⟨⟨⟨h1, h2⟩, h3, h4, h5⟩, h⟩ := h
      refine ⟨rfl, ?_⟩
      show m_met_monomials [.sh d1, .sh d2, .un, .un] _
      unfold m_met_monomials
      dsimp only [sRt, eF, aCons, aNil, eLc, iOf, eVar, List.getElem?_cons_zero, List.getElem?_cons_succ]
      refine ⟨rfl, F_po e1 e2 h4 h5 ?_⟩
      have hl := prs_len A B
      refine ⟨by rw [List.length_map]; omega, ?_⟩
      refine lcE_mapL DL.pairD (fun q => rowD (lcmR q.1 q.2)) _ _ (fun q hq => ⟨_, rfl, fun Q2 hq2 => ?_⟩) ?_
      · dsimp only [DL.pairD, tg2, blkE, kilE, noOwn, List.map, List.set, eF, aCons, aNil, eVar, List.getElem?_cons_zero, List.getElem?_cons_succ]
        exact ⟨rfl, F_mul (h1 _ (mem_prs.mp hq).1).2 hq2⟩
      · have e : (prsR A B).map (fun q => rowD (lcmR q.1 q.2)) = (metL A B).map rowD := by
          unfold metL
          rw [List.map_map]
          rfl
        rw [e]
        refine ⟨rfl, F_lo (rowsOf_L _) (okR_zip h1 h2) (by unfold metL; rw [List.length_map]; omega) h⟩
    · exact h.elim
  · exact h.elim
end K62

set_option Elab.async false
set_option linter.all false
set_option maxRecDepth 100000
set_option maxHeartbeats 4000000
namespace K62
open PySem PySem.Spec PyProof.Rows L2 DL
local macro_rules | `(tactic| walk_at "dd") => `(tactic| dsimp only [sSq, sRt, sRn, sDr, sSet, sPr, sTg, sIf, sBk, sCt, sNil, sApp, sFz, sNx, sLi, sPq, sDn, eVar, eC, e1, e2, eIf, aNil, aCons, eA, tNt, tAn, tOo, eAnd, eOr, eNot, eTup, eLst, tBo, eLc, eSl, oNo, oSo, eF, eFM, eCh, tTrue, iOf, iZp, iEn, aStar, sExt, sCat, sCaA, bMaxLs, iRg1, iRg2, tgN, tg2, List.set, List.getElem?_cons_zero, List.getElem?_cons_succ, List.map, List.replicate, List.append, List.cons_append, List.nil_append, fnW, noOwn, blkE, kilE, bTup, bSum, bMin2, bMax2, bLen, bLst, bSrt, bMaxT, List.getD_cons_zero, List.getD_cons_succ])
theorem F_nt {a d1 d2 : D} {p : Int → W D} {R Z : D → Prop} {P : D → Prop} (h : lets a p P Z) (i : ∀ l : Int, a = .int l → 1 ≤ l → l ≤ 4 → p l P Z → two l d1 d2 (R .non) Z) : F_need_two [a, d1, d2] R Z := lets_imp (p' := fun l P Z => two l d1 d2 (P .non) Z) h i
/-- what two stairs are -/
theorem two_rows {l : Int} {d1 d2 : D} (h1 : stB l d1 = true) (h2 : stB l d2 = true) : ∃ A B : List (List Int), d1 = rowsD A ∧ d2 = rowsD B ∧ boxR l A ∧ boxR l B ∧ (1 ≤ A.length ∧ A.length ≤ 10) ∧ (1 ≤ B.length ∧ B.length ≤ 10) ∧ leastS A = A ∧ leastS B = B := by
  obtain ⟨A, rfl, a1, a2, a3, a4⟩ := stB_rows h1
  obtain ⟨B, rfl, b1, b2, b3, b4⟩ := stB_rows h2
  exact ⟨A, B, rfl, rfl, a3, b3, ⟨a1, a2⟩, ⟨b1, b2⟩, a4, b4⟩
theorem rowsOf_D (A : List (List Int)) : rowsOf (rowsD A) = some A := rowsOf_T A
theorem i_stairs_sum : ∀ ds Q Z, F_stairs_sum ds Q Z → fnW 3 3 m_stairs_sum ds Q Z := by
  intro ds Q Z h
  unfold F_stairs_sum at h
  split at h
  · rename_i a d1 d2
    refine ⟨rfl, ?_⟩
    show m_stairs_sum [.sh a, .sh d1, .sh d2] _
    unfold m_stairs_sum
    dsimp only [sSq, sDr, eF, aCons, aNil, eVar, List.getElem?_cons_zero, List.getElem?_cons_succ]
    refine ⟨rfl, F_nt h fun l e h1 h2 hp => two_imp hp fun s1 s2 hm => ?_⟩
    obtain ⟨A, B, rfl, rfl, bA, bB, lA, lB, _, _⟩ := two_rows s1 s2
    rw [rowsOf_D, rowsOf_D] at hm
    dsimp only [sRt, DL.e2, eF, aCons, aNil, eVar, List.getElem?_cons_zero, List.getElem?_cons_succ]
    unfold rowsD
    refine dAdd_tt (Z := Z) (by rw [List.length_map, List.length_map]; omega) ?_
    rw [mapmap]
    refine ⟨rfl, F_ms (rowsOf_T _) (fun ns hn => ?_) (by rw [List.length_append]; omega) hm⟩
    rcases List.mem_append.mp hn with hn | hn
    · exact okR_of h1 (by omega) bA ns hn
    · exact okR_of h1 (by omega) bB ns hn
  · exact h.elim
theorem least_idem (X : List (List Int)) : leastS (leastS X) = leastS X := by
  have z3 := least_take X (leastS X).length
  rwa [List.take_length] at z3
theorem F_mm {A B : List (List Int)} {P Z : D → Prop} (h1 : okR A) (h2 : okR B) (h3 : A.length * B.length < 64) (h4 : A.length ≤ 1000) (h5 : B.length ≤ 1000) (h : P (rowsD (leastS (metL A B)))) : F_met_monomials [rowsD A, rowsD B] P Z := by
  unfold F_met_monomials
  dsimp only
  rw [rowsOf_D, rowsOf_D]
  exact ⟨⟨⟨h1, h2⟩, h3, h4, h5⟩, h⟩
theorem i_stairs_both : ∀ ds Q Z, F_stairs_both ds Q Z → fnW 3 3 m_stairs_both ds Q Z := by
  intro ds Q Z h
  unfold F_stairs_both at h
  split at h
  · rename_i a d1 d2
    refine ⟨rfl, ?_⟩
    show m_stairs_both [.sh a, .sh d1, .sh d2] _
    unfold m_stairs_both
    dsimp only [sSq, sDr, eF, aCons, aNil, eVar, List.getElem?_cons_zero, List.getElem?_cons_succ]
    refine ⟨rfl, F_nt h fun l e h1 h2 hp => two_imp hp fun s1 s2 hm => ?_⟩
    obtain ⟨A, B, rfl, rfl, bA, bB, lA, lB, _, _⟩ := two_rows s1 s2
    rw [rowsOf_D, rowsOf_D] at hm
    obtain ⟨hm1, hm2⟩ := hm
    have oA := okR_of h1 (by omega) bA
    have oB := okR_of h1 (by omega) bB
    dsimp only [sRt, DL.e2, eF, aCons, aNil, eVar, List.getElem?_cons_zero, List.getElem?_cons_succ]
    refine ⟨rfl, F_mm oA oB hm1 (by omega) (by omega) ⟨rfl, F_ms (rowsOf_D _) (fun ns hn => okR_zip oA oB ns (mem_least hn)) ?_ ?_⟩⟩
    · have := least_len (metL A B)
      unfold metL at this
      rw [List.length_map, prs_len] at this
      unfold metL
      omega
    · rw [least_idem]
      exact hm2
  · exact h.elim
theorem i_stairs_times : ∀ ds Q Z, F_stairs_times ds Q Z → fnW 8 3 m_stairs_times ds Q Z := by
  intro ds Q Z h
  unfold F_stairs_times at h
  split at h
  · rename_i a d1 d2
    refine ⟨rfl, ?_⟩
    show m_stairs_times [.sh a, .sh d1, .sh d2, .un, .un, .un, .un, .un] _
    unfold m_stairs_times
    dsimp only [sSq, sDr, eF, aCons, aNil, eVar, List.getElem?_cons_zero, List.getElem?_cons_succ]
    refine ⟨rfl, F_nt h fun l e h1 h2 hp => two_imp hp fun s1 s2 hm => ?_⟩
    obtain ⟨A, B, rfl, rfl, bA, bB, lA, lB, _, _⟩ := two_rows s1 s2
    rw [rowsOf_D, rowsOf_D] at hm
    obtain ⟨hm1, hm2⟩ := hm
    have oA := okR_of h1 (by omega) bA
    have oB := okR_of h1 (by omega) bB
    dsimp only [sNil, List.set]
    refine sFor_i ?_
    dsimp only [iOf, eF, aCons, aNil, eVar, List.getElem?_cons_zero, List.getElem?_cons_succ]
    refine ⟨rfl, F_po (rowsOf_D A) (rowsOf_D B) (by omega) (by omega) ?_⟩
    dsimp only
    have hpl := prs_len A B
    have hok := okR_zip (f := fun x y => x + y) oA oB
    have hmem := fun q => (mem_prs (A := A) (B := B) (q := q)).mp
    unfold prodL at hm2
    generalize prsR A B = C at hpl hok hmem hm2 ⊢
    refine forS_fold (k := _) DL.pairD (fun acc : List (List Int) => [.sh a, .sh (rowsD A), .sh (rowsD B), .own (acc.map rowD), .un, .un, .un, .un]) (fun acc q => acc ++ [prodR q.1 q.2]) (fun dn acc => acc.length = dn.length) (b0 := []) rfl (fun dn m rest s F2 hl hI hF2 => ?_) (fun hI => ?_)
    · have hz := congrArg List.length hl
      rw [List.length_append, List.length_cons] at hz
      have hm := hmem m (by rw [hl]; simp)
      dsimp only [DL.pairD, tg2, List.set, sApp, eA, aCons, aNil, eLc, iZp, eVar, List.getElem?_cons_zero, List.getElem?_cons_succ]
      show (List.zipWith (fun x y => D.tup [x, y]) (m.1.map D.int) (m.2.map D.int)).length < 16777216 ∧ lcE _ _ _ _ (List.zipWith (fun x y => D.tup [x, y]) (m.1.map D.int) (m.2.map D.int)) _ _
      rw [zipD_rows]
      refine ⟨by rw [List.length_map]; have := zlen m.1 m.2; have := (oA _ hm.1).2; omega, ?_⟩
      refine lcE_mapL _ (fun q => D.int (q.1 + q.2)) _ _ (fun q _ => ⟨_, rfl, fun Q2 hq => ?_⟩) ?_
      · dsimp only [DL.e2, eVar, tg2, blkE, kilE, noOwn, List.map, List.set, List.getElem?_cons_zero, List.getElem?_cons_succ]
        exact dAdd_i (Z := fun _ => False) hq
      · have er : (List.zip m.1 m.2).map (fun q => D.int (q.1 + q.2)) = (prodR m.1 m.2).map D.int := by
          unfold prodR
          rw [List.zip_eq_zipWith, List.map_zipWith, List.map_zipWith]
        rw [er]
        refine ⟨by rw [List.length_map]; omega, ?_⟩
        rw [show s.map rowD ++ [D.tup ((prodR m.1 m.2).map D.int)] = (s ++ [prodR m.1 m.2]).map rowD by rw [List.map_append]; rfl]
        refine hF2 ?_
        rw [List.length_append, List.length_append, hI]
        rfl
    · rw [foldl_snoc, List.nil_append]
      dsimp only [sFz, sRt, eF, aCons, aNil, eVar, List.set, List.getElem?_cons_zero, List.getElem?_cons_succ]
      exact ⟨rfl, F_ms (rowsOf_L _) hok (by rw [List.length_map]; omega) hm2⟩
  · exact h.elim
theorem over_map (s x : List Int) : (List.zip s x).map (fun q => D.int (if q.1 - q.2 > 0 then q.1 - q.2 else 0)) = (overR s x).map D.int := by
  unfold overR
  rw [List.zip_eq_zipWith, List.map_zipWith, List.map_zipWith]
  congr 1
  funext p l
  rw [max_if]
theorem okR_over {A : List (List Int)} {x : List Int} (hA : okR A) (hx : x ≠ []) : okR (overL A x) := fun ns hn => by
  obtain ⟨s, hs, rfl⟩ := List.mem_map.mp hn
  have a := hA _ hs
  have la : 0 < s.length := List.length_pos_iff.mpr a.1
  have lb : 0 < x.length := List.length_pos_iff.mpr hx
  unfold overR
  refine ⟨fun e => ?_, by rw [List.length_zipWith]; omega⟩
  have z : min s.length x.length = 0 := by
    have := congrArg List.length e
    rwa [List.length_zipWith] at this
  omega
theorem i_stairs_over : ∀ ds Q Z, F_stairs_over ds Q Z → fnW 6 3 m_stairs_over ds Q Z := by
  intro ds Q Z h
  unfold F_stairs_over at h
  split at h
  · rename_i a d m
    refine ⟨rfl, ?_⟩
    show m_stairs_over [.sh a, .sh d, .sh m, .un, .un, .un] _
    unfold m_stairs_over
    dsimp only [sSq, sDr, eF, aCons, aNil, eVar, eC, List.getElem?_cons_zero, List.getElem?_cons_succ]
    refine ⟨rfl, F_nl h fun l e h1 h2 hp => ?_⟩
    subst e
    obtain ⟨p1, p2⟩ := hp
    refine ⟨rfl, ⟨p1, h1, by omega⟩, ?_⟩
    cases q : stB l d with
    | false =>
      rw [q] at p2
      exact p2
    | true =>
      rw [q, if_pos rfl] at p2
      rw [if_pos rfl]
      obtain ⟨p3, p4⟩ := p2
      refine ⟨rfl, ⟨p3, by omega⟩, ?_⟩
      show if monB l m 6 = true then _ else _
      cases q2 : monB l m 6 with
      | false =>
        rw [q2] at p4
        exact p4
      | true =>
        rw [q2, if_pos rfl] at p4
        rw [if_pos rfl]
        obtain ⟨A, rfl, a1, a2, a3, a4⟩ := stB_rows q
        obtain ⟨x, rfl, hx⟩ := monB_row q2
        rw [rowsOf_D, itOf_row] at p4
        have hxn : x ≠ [] := fun z => by
          have := hx.1
          rw [z] at this
          simp at this
          omega
        dsimp only [sRt, eF, aCons, aNil, eLc]
        refine iOf_rows (rowsOf_D A) rfl ⟨by rw [List.length_map]; omega, ?_⟩
        refine lcE_mapL rowD (fun s => rowD (overR s x)) _ _ (fun s hs => ⟨_, rfl, fun Q2 hq => ?_⟩) ?_
        · dsimp only [tgN, blkE, kilE, noOwn, List.map, List.set, eA, aCons, aNil, eLc, iZp, eVar, List.getElem?_cons_zero, List.getElem?_cons_succ]
          show (List.zipWith (fun x y => D.tup [x, y]) (s.map D.int) (x.map D.int)).length < 16777216 ∧ lcE _ _ _ _ (List.zipWith (fun x y => D.tup [x, y]) (s.map D.int) (x.map D.int)) _ _
          rw [zipD_rows]
          refine ⟨by rw [List.length_map]; have := zlen s x; have := (a3 s hs).1; omega, ?_⟩
          refine lcE_mapL _ (fun q => D.int (if q.1 - q.2 > 0 then q.1 - q.2 else 0)) _ _ (fun q _ => ⟨_, rfl, fun Q3 hq3 => ?_⟩) ?_
          · dsimp only [tg2, blkE, kilE, noOwn, List.map, List.set, eA, aCons, aNil, DL.e2, eC, eVar, List.getElem?_cons_zero, List.getElem?_cons_succ]
            exact dSub_i (Z := fun _ => False) hq3
          · rw [over_map]
            exact hq
        · have e : A.map (fun s => rowD (overR s x)) = (overL A x).map rowD := by
            unfold overL
            rw [List.map_map]
            rfl
          rw [e]
          exact ⟨rfl, F_ms (rowsOf_L _) (okR_over (okR_of h1 (by omega) a3) hxn) (by unfold overL; rw [List.length_map]; omega) p4⟩
  · exact h.elim
end K62

set_option Elab.async false
set_option linter.all false
set_option maxRecDepth 100000
set_option maxHeartbeats 4000000
namespace K62
open PySem PySem.Spec PyProof.Rows L2 DL
local macro_rules | `(tactic| walk_at "dd") => `(tactic| dsimp only [sSq, sRt, sRn, sDr, sSet, sPr, sTg, sIf, sBk, sCt, sNil, sApp, sFz, sNx, sLi, sPq, sDn, eVar, eC, e1, e2, eIf, aNil, aCons, eA, tNt, tAn, tOo, eAnd, eOr, eNot, eTup, eLst, tBo, eLc, eSl, oNo, oSo, eF, eFM, eCh, tTrue, iOf, iZp, iEn, aStar, sExt, sCat, sCaA, bMaxLs, iRg1, iRg2, tgN, tg2, List.set, List.getElem?_cons_zero, List.getElem?_cons_succ, List.map, List.replicate, List.append, List.cons_append, List.nil_append, fnW, noOwn, blkE, kilE, bTup, bSum, bMin2, bMax2, bLen, bLst, bSrt, bMaxT, List.getD_cons_zero, List.getD_cons_succ])
/-! ### drawn stairs -/
theorem F_lls {X : List (List Int)} {P Z : D → Prop} (h1 : okR X) (h2 : X.length ≤ 1000) (h : P (rowsD (leastS X))) : F_law_least [.lst (X.map rowD)] P Z := by
  unfold F_law_least
  dsimp only
  rw [show rowsOf (.lst (X.map rowD)) = some X from itsOf_rows X]
  exact ⟨⟨h1, h2⟩, h⟩
theorem F_lmon {L hi : Int} {P Z : D → Prop} (h1 : 0 ≤ L) (h2 : L ≤ 1000) (h3 : 0 ≤ hi) (h4 : hi ≤ 1000) (h : ∀ ns : List Int, (ns.length : Int) = L → (∀ x ∈ ns, 0 ≤ x ∧ x ≤ hi) → P (rowD ns)) : F_law_monomial [.drw, .int L, .int hi] P Z := ⟨⟨h1, h2, h3, h4⟩, h⟩
theorem drawn_run {env : Ev} {L hi : Int} {me : EM} {i : Nat} (hm : ∀ (d : D) (Q : D → Prop), (∀ ns : List Int, (ns.length : Int) = L → (∀ x ∈ ns, 0 ≤ x ∧ x ≤ hi) → Q (rowD ns)) → me (env.set i (.sh d)) Q (fun _ => False)) {Z : D → Prop} :
    ∀ (ds : List D) (P : List D → Prop), (∀ X : List (List Int), X.length = ds.length → (∀ ns ∈ X, (ns.length : Int) = L ∧ ∀ x ∈ ns, 0 ≤ x ∧ x ≤ hi) → P (X.map rowD)) → lcE (tgN i) tTrue me env ds P Z
  | [], P, hp => hp [] rfl fun x hx => by cases hx
  | d :: ds, P, hp => by
    unfold lcE
    dsimp only [tgN, tTrue]
    rw [if_pos rfl]
    refine hm d _ fun ns e1 e2 => ?_
    refine drawn_run hm ds _ fun X q1 q2 => hp (ns :: X) (by rw [List.length_cons, List.length_cons, q1]) fun x hx => ?_
    rcases List.mem_cons.mp hx with rfl | hx
    · exact ⟨e1, e2⟩
    · exact q2 x hx
theorem i_law_drawn : ∀ ds Q Z, F_law_drawn ds Q Z → fnW 5 3 m_law_drawn ds Q Z := by
  intro ds Q Z h
  unfold F_law_drawn at h
  split at h
  · rename_i l most
    obtain ⟨⟨⟨h1, h2⟩, h3, h4⟩, h⟩ := h
    refine ⟨rfl, ?_⟩
    unfold m_law_drawn
    refine sSqSet_i ?_
    walk_at "dd"
    refine ⟨by show 4 ≤ 16777216; decide, rfl, F_pick_l (by show 0 < 4; decide) (by show 4 < 1000; decide) fun d hd => ?_⟩
    have hhi : ∃ hi : Int, d = .int hi ∧ 0 ≤ hi ∧ hi ≤ 6 := by
      simp only [List.mem_cons, List.not_mem_nil, or_false] at hd
      rcases hd with rfl | rfl | rfl | rfl
      · exact ⟨1, rfl, by decide, by decide⟩
      · exact ⟨2, rfl, by decide, by decide⟩
      · exact ⟨3, rfl, by decide, by decide⟩
      · exact ⟨6, rfl, by decide, by decide⟩
    obtain ⟨hi, rfl, hi1, hi2⟩ := hhi
    refine ⟨rfl, F_take_n (by omega) (by unfold v_BIG; omega) fun k k1 k2 => ?_⟩
    refine dAdd_i (Z := Z) ⟨⟨by omega, by omega⟩, ?_⟩
    have hlen : (rgD 0 (1 + k).toNat).length = (1 + k).toNat := rgD_len 0 _
    refine ⟨by rw [hlen]; omega, ?_⟩
    refine drawn_run (L := l) (hi := hi) (i := 4) (fun d Q2 hq2 => ?_) _ _ fun X q1 q2 => ?_
    · walk_at "dd"
      exact ⟨rfl, F_lmon (by omega) (by omega) hi1 (by omega) hq2⟩
    · rw [hlen] at q1
      have hX : ∀ ns ∈ X, (ns.length : Int) = l ∧ ∀ x ∈ ns, 0 ≤ x ∧ x ≤ 6 := fun ns hn => ⟨(q2 ns hn).1, fun x hx => by have := (q2 ns hn).2 x hx; omega⟩
      have hX2 : ∀ x ∈ X, x.length = l.toNat ∧ ∀ a ∈ x, 0 ≤ a := fun x hx => ⟨by have := (hX x hx).1; omega, fun a ha => ((hX x hx).2 a ha).1⟩
      have z1 := least_len X
      have z2 := least_ne hX2 (by omega)
      have z3 := least_take X (leastS X).length
      rw [List.take_length] at z3
      refine ⟨rfl, F_lls (okR_of h1 (by omega) hX) (by omega) ?_⟩
      show Q (.tup (DL.cutD ((leastS X).map rowD) none (some ((10 : Nat) : Int))))
      rw [cut_to, List.take_of_length_le (by rw [List.length_map]; omega)]
      refine h (leastS X) ?_ (by omega)
      rw [rows_stB z2 (by omega) fun ns hn => hX ns (mem_least hn)]
      exact decide_eq_true z3
  · exact h.elim
theorem dAdd_rows {X Y : List (List Int)} {P Z : D → Prop} (hl : X.length + Y.length ≤ 16777216) (h : P (.lst ((X ++ Y).map rowD))) : dAdd (.lst (X.map rowD)) (.lst (Y.map rowD)) P Z := by
  refine dAdd_ll (Z := Z) (by rw [List.length_map, List.length_map]; exact hl) ?_
  rw [mapmap]
  exact h
theorem i_law_bounds : ∀ ds Q Z, F_law_bounds ds Q Z → fnW 2 1 m_law_bounds ds Q Z := by
  intro ds Q Z h
  unfold F_law_bounds at h
  split at h
  · rename_i d
    split at h
    · rename_i nss e1
      obtain ⟨⟨h1, h2⟩, h⟩ := h
      refine ⟨rfl, ?_⟩
      show m_law_bounds [.sh d, .un] _
      unfold m_law_bounds
      have hlen : ∀ (P Z : D → Prop), P (.int (nss.length : Int)) → bLen [d] P Z := fun P Z hp => by
        rcases rowsOf_eq e1 with rfl | rfl
        · show P (.int (((nss.map rowD).length : Nat) : Int))
          rw [List.length_map]
          exact hp
        · show P (.int (((nss.map rowD).length : Nat) : Int))
          rw [List.length_map]
          exact hp
      dsimp only [sRt, DL.e2, eIf, tBo, eLc]
      refine iOf_rows e1 rfl ⟨by rw [List.length_map]; omega, ?_⟩
      refine lcE_fmL rowD (fun m => decide (6 < maxL m)) (fun _ => D.int 1) _ _ (fun m hm => ⟨_, rfl, fun Q2 hq => ?_, fun _ Q2 hq => hq⟩) ?_
      · dsimp only [tBo, DL.e2, tgN, blkE, kilE, noOwn, List.map, List.set, eA, aCons, aNil, eC, eVar, List.getElem?_cons_zero, List.getElem?_cons_succ]
        refine bMaxT_row (Z := fun _ => False) (h1 m hm).1 ?_
        exact dGt_i (Z := fun _ => False) hq
      · dsimp only [eLst, aNil, eC, aCons]
        refine ⟨by show 0 ≤ 16777216; decide, ?_⟩
        refine dNe_ones (Z := Z) ?_
        rw [filter_empty, Bool.not_not]
        dsimp only
        unfold boundsT big at h
        have fin : ∀ (X : List D), X.length ≤ 1 → Q (.lst (X ++ if 10 < nss.length then [D.str "many 10"] else [])) → (eA bLen (aCons (eVar 0) aNil)) [.sh d, .un] (fun y => dGt y (.int 10) (fun d_1 => match d_1 with
            | .bl k => if k = true then [D.str "many 10"].length ≤ 16777216 ∧ dAdd (.lst X) (.lst [.str "many 10"]) Q Z else ([] : List D).length ≤ 16777216 ∧ dAdd (.lst X) (.lst []) Q Z
            | _ => False) Z) Z := fun X hX hq => by
          dsimp only [eA, aCons, aNil, eVar, List.getElem?_cons_zero]
          refine hlen _ _ (dGt_i (Z := Z) ?_)
          by_cases q : 10 < nss.length
          · rw [if_pos q] at hq
            rw [decide_eq_true (by omega)]
            dsimp only
            rw [if_pos rfl]
            exact ⟨by show 1 ≤ 16777216; decide, dAdd_ll (Z := Z) (by show X.length + 1 ≤ 16777216; omega) hq⟩
          · rw [if_neg q] at hq
            rw [decide_eq_false (by omega)]
            dsimp only
            rw [if_neg (by decide)]
            exact ⟨by show 0 ≤ 16777216; decide, dAdd_ll (Z := Z) (by show X.length + 0 ≤ 16777216; omega) hq⟩
        cases q : nss.any fun m => decide (6 < maxL m) with
        | true =>
          rw [q, if_pos rfl] at h
          rw [if_pos rfl]
          exact ⟨by show 1 ≤ 16777216; decide, fin _ (Nat.le_refl _) h⟩
        | false =>
          rw [q, if_neg (by decide)] at h
          rw [if_neg (by decide)]
          exact ⟨by show 0 ≤ 16777216; decide, fin _ (Nat.zero_le _) h⟩
    · exact h.elim
  · exact h.elim
theorem F_bo {d : D} {nss : List (List Int)} {P Z : D → Prop} (e : rowsOf d = some nss) (h1 : okR nss) (h2 : nss.length ≤ 1000) (h : P (.lst (boundsT nss))) : F_law_bounds [d] P Z := by
  unfold F_law_bounds
  dsimp only
  rw [e]
  exact ⟨⟨h1, h2⟩, h⟩
theorem i_law_met : ∀ ds Q Z, F_law_met ds Q Z → fnW 5 2 m_law_met ds Q Z := by
  intro ds Q Z h
  unfold F_law_met at h
  split at h
  · rename_i d1 d2
    split at h
    · rename_i A B e1 e2
      obtain ⟨⟨⟨h1, h2⟩, h3, h4, h5⟩, h⟩ := h
      refine ⟨rfl, ?_⟩
      show m_law_met [.sh d1, .sh d2, .un, .un, .un] _
      unfold m_law_met
      dsimp only [sSq, sSet, eLst, aNil, List.set]
      refine ⟨by show 0 ≤ 16777216; decide, ?_⟩
      refine sFor_i ?_
      refine iOf_rows e1 rfl ?_
      refine forS_fold (k := _) rowD (fun acc : List (List Int) => [.sh d1, .sh d2, .sh (.lst (acc.map rowD)), .un, .un]) (fun acc a => acc ++ B.map fun b => lcmR a b) (fun dn acc => acc.length = dn.length * B.length) (b0 := []) (Nat.zero_mul _).symm (fun dn a rest s F2 hl hI hF2 => ?_) (fun hI => ?_)
      · have hz := congrArg List.length hl
        rw [List.length_append, List.length_cons] at hz
        have hb : dn.length * B.length ≤ 1000 * 1000 := Nat.mul_le_mul (by omega) h5
        have ha : a ∈ A := by rw [hl]; simp
        dsimp only [tgN, List.set, sSet, DL.e2, eVar, eLc, List.getElem?_cons_zero, List.getElem?_cons_succ]
        refine iOf_rows e2 rfl ⟨by rw [List.length_map]; omega, ?_⟩
        refine lcE_mapL rowD (fun b => rowD (lcmR a b)) _ _ (fun b _ => ⟨_, rfl, fun Q2 hq => ?_⟩) ?_
        · dsimp only [tgN, blkE, kilE, noOwn, List.map, List.set, eF, aCons, aNil, eVar, List.getElem?_cons_zero, List.getElem?_cons_succ]
          exact ⟨rfl, F_mul (h1 a ha).2 hq⟩
        · have e : B.map (fun b => rowD (lcmR a b)) = (B.map fun b => lcmR a b).map rowD := by rw [List.map_map]; rfl
          rw [e]
          refine dAdd_rows (Z := _) (by rw [List.length_map, hI]; omega) ?_
          refine hF2 ?_
          rw [List.length_append, List.length_map, hI, List.length_append, List.length_singleton, Nat.add_mul, Nat.one_mul]
      · rw [foldl_flat, List.nil_append]
        have e : (A.flatMap fun a => B.map fun b => lcmR a b) = metL A B := by
          unfold metL prsR
          rw [List.map_flatMap]
          congr 1
          funext a
          rw [List.map_map]
          rfl
        rw [e]
        dsimp only [sRt, eF, aCons, aNil, eVar, List.getElem?_cons_zero, List.getElem?_cons_succ]
        refine ⟨rfl, F_lls (okR_zip h1 h2) ?_ h⟩
        unfold metL
        rw [List.length_map, prs_len]
        exact h3
    · exact h.elim
  · exact h.elim
theorem i_law_products : ∀ ds Q Z, F_law_products ds Q Z → fnW 7 2 m_law_products ds Q Z := by
  intro ds Q Z h
  unfold F_law_products at h
  split at h
  · rename_i d1 d2
    split at h
    · rename_i A B e1 e2
      obtain ⟨⟨⟨h1, h2⟩, h3, h4, h5⟩, h⟩ := h
      refine ⟨rfl, ?_⟩
      show m_law_products [.sh d1, .sh d2, .un, .un, .un, .un, .un] _
      unfold m_law_products
      dsimp only [sSq, sSet, eLst, aNil, List.set]
      refine ⟨by show 0 ≤ 16777216; decide, ?_⟩
      refine sFor_i ?_
      refine iOf_rows e1 rfl ?_
      refine forS_fold (k := _) rowD (fun acc : List (List Int) => [.sh d1, .sh d2, .sh (.lst (acc.map rowD)), .un, .un, .un, .un]) (fun acc a => acc ++ B.map fun b => prodR a b) (fun dn acc => acc.length = dn.length * B.length) (b0 := []) (Nat.zero_mul _).symm (fun dn a rest s F2 hl hI hF2 => ?_) (fun hI => ?_)
      · have hz := congrArg List.length hl
        rw [List.length_append, List.length_cons] at hz
        have hb : dn.length * B.length ≤ 1000 * 1000 := Nat.mul_le_mul (by omega) h5
        have ha : a ∈ A := by rw [hl]; simp
        dsimp only [tgN, List.set, sSet, DL.e2, eVar, eLc, List.getElem?_cons_zero, List.getElem?_cons_succ]
        refine iOf_rows e2 rfl ⟨by rw [List.length_map]; omega, ?_⟩
        refine lcE_mapL rowD (fun b => rowD (prodR a b)) _ _ (fun b _ => ⟨_, rfl, fun Q2 hq => ?_⟩) ?_
        · dsimp only [tgN, blkE, kilE, noOwn, List.map, List.set, eA, aCons, aNil, eLc, iZp, eVar, List.getElem?_cons_zero, List.getElem?_cons_succ]
          show (List.zipWith (fun x y => D.tup [x, y]) (a.map D.int) (b.map D.int)).length < 16777216 ∧ lcE _ _ _ _ (List.zipWith (fun x y => D.tup [x, y]) (a.map D.int) (b.map D.int)) _ _
          rw [zipD_rows]
          refine ⟨by rw [List.length_map]; have := zlen a b; have := (h1 a ha).2; omega, ?_⟩
          refine lcE_mapL _ (fun q => D.int (q.1 + q.2)) _ _ (fun q _ => ⟨_, rfl, fun Q3 hq3 => ?_⟩) ?_
          · dsimp only [DL.e2, eVar, tg2, blkE, kilE, noOwn, List.map, List.set, List.getElem?_cons_zero, List.getElem?_cons_succ]
            exact dAdd_i (Z := fun _ => False) hq3
          · have er : (List.zip a b).map (fun q => D.int (q.1 + q.2)) = (prodR a b).map D.int := by
              unfold prodR
              rw [List.zip_eq_zipWith, List.map_zipWith, List.map_zipWith]
            rw [er]
            exact hq
        · have e : B.map (fun b => rowD (prodR a b)) = (B.map fun b => prodR a b).map rowD := by rw [List.map_map]; rfl
          rw [e]
          refine dAdd_rows (Z := _) (by rw [List.length_map, hI]; omega) ?_
          refine hF2 ?_
          rw [List.length_append, List.length_map, hI, List.length_append, List.length_singleton, Nat.add_mul, Nat.one_mul]
      · rw [foldl_flat, List.nil_append]
        have e : (A.flatMap fun a => B.map fun b => prodR a b) = prodL A B := by
          unfold prodL prsR
          rw [List.map_flatMap]
          congr 1
          funext a
          rw [List.map_map]
          rfl
        rw [e]
        dsimp only [sRt, eF, aCons, aNil, eVar, List.getElem?_cons_zero, List.getElem?_cons_succ]
        refine ⟨rfl, F_lls (okR_zip h1 h2) ?_ h⟩
        unfold prodL
        rw [List.length_map, prs_len]
        exact h3
    · exact h.elim
  · exact h.elim
theorem i_law_over : ∀ ds Q Z, F_law_over ds Q Z → fnW 5 2 m_law_over ds Q Z := by
  intro ds Q Z h
  unfold F_law_over at h
  split at h
  · rename_i d m
    split at h
    · rename_i A x e1 e2
      obtain ⟨⟨h1, h2, h3, h4⟩, h⟩ := h
      rw [itOf_tup e2]
      refine ⟨rfl, ?_⟩
      show m_law_over [.sh d, .sh (rowD x), .un, .un, .un] _
      unfold m_law_over
      dsimp only [sRt, eF, aCons, aNil, eLc]
      refine iOf_rows e1 rfl ⟨by rw [List.length_map]; omega, ?_⟩
      refine lcE_mapL rowD (fun s => rowD (overR s x)) _ _ (fun s hs => ⟨_, rfl, fun Q2 hq => ?_⟩) ?_
      · dsimp only [tgN, blkE, kilE, noOwn, List.map, List.set, eA, aCons, aNil, eLc, iZp, eVar, List.getElem?_cons_zero, List.getElem?_cons_succ]
        show (List.zipWith (fun x y => D.tup [x, y]) (s.map D.int) (x.map D.int)).length < 16777216 ∧ lcE _ _ _ _ (List.zipWith (fun x y => D.tup [x, y]) (s.map D.int) (x.map D.int)) _ _
        rw [zipD_rows]
        refine ⟨by rw [List.length_map]; have := zlen s x; have := (h1 s hs).2; omega, ?_⟩
        refine lcE_mapL _ (fun q => D.int (if q.1 - q.2 > 0 then q.1 - q.2 else 0)) _ _ (fun q _ => ⟨_, rfl, fun Q3 hq3 => ?_⟩) ?_
        · dsimp only [tg2, blkE, kilE, noOwn, List.map, List.set, eA, aCons, aNil, DL.e2, eC, eVar, List.getElem?_cons_zero, List.getElem?_cons_succ]
          exact dSub_i (Z := fun _ => False) hq3
        · rw [over_map]
          exact hq
      · have e : A.map (fun s => rowD (overR s x)) = (overL A x).map rowD := by
          unfold overL
          rw [List.map_map]
          rfl
        rw [e]
        exact ⟨rfl, F_lls (okR_over h1 h3) (by unfold overL; rw [List.length_map]; omega) h⟩
    · exact h.elim
  · exact h.elim
end K62

set_option Elab.async false
set_option linter.all false
set_option maxRecDepth 100000
set_option maxHeartbeats 4000000
namespace K62
open PySem PySem.Spec PyProof.Rows L2 DL
local macro_rules | `(tactic| walk_at "dd") => `(tactic| dsimp only [sSq, sRt, sRn, sDr, sSet, sPr, sTg, sIf, sBk, sCt, sNil, sApp, sFz, sNx, sLi, sPq, sDn, eVar, eC, e1, e2, eIf, aNil, aCons, eA, tNt, tAn, tOo, eAnd, eOr, eNot, eTup, eLst, tBo, eLc, eSl, oNo, oSo, eF, eFM, eCh, tTrue, iOf, iZp, iEn, aStar, sExt, sCat, sCaA, bMaxLs, iRg1, iRg2, tgN, tg2, List.set, List.getElem?_cons_zero, List.getElem?_cons_succ, List.map, List.replicate, List.append, List.cons_append, List.nil_append, fnW, noOwn, blkE, kilE, bTup, bSum, bMin2, bMax2, bLen, bLst, bSrt, bMaxT, List.getD_cons_zero, List.getD_cons_succ])
theorem eqv_bounds (X : List (List Int)) : ∃ p : PyData, toPy (.lst (boundsT X)) = some p ∧ SeqAt.shaped p = true ∧ PyData.eqv p (.list []) = (!big X && decide (X.length ≤ 10)) := by
  unfold boundsT
  have e : decide (X.length ≤ 10) = !decide (10 < X.length) := by
    by_cases h : X.length ≤ 10
    · rw [decide_eq_true h, decide_eq_false (by omega)]
      rfl
    · rw [decide_eq_false h, decide_eq_true (by omega)]
      rfl
  rw [e]
  by_cases h : 10 < X.length
  · rw [if_pos h, decide_eq_true h]
    cases big X with
    | true => exact ⟨_, rfl, by decide +kernel, by decide +kernel⟩
    | false => exact ⟨_, rfl, by decide +kernel, by decide +kernel⟩
  · rw [if_neg h, decide_eq_false h]
    cases big X with
    | true => exact ⟨_, rfl, by decide +kernel, by decide +kernel⟩
    | false => exact ⟨_, rfl, by decide +kernel, by decide +kernel⟩
theorem i_law_is_told : ∀ ds Q Z, F_law_is_told ds Q Z → fnW 1 1 m_law_is_told ds Q Z := by
  intro ds Q Z h
  unfold F_law_is_told at h
  split at h
  · rename_i d
    split at h
    · rename_i nss e1
      obtain ⟨⟨h1, h2⟩, h⟩ := h
      refine ⟨rfl, ?_⟩
      show m_law_is_told [.sh d] _
      unfold m_law_is_told
      dsimp only [sRt, DL.e2, eF, eLst, aCons, aNil, eVar, List.getElem?_cons_zero]
      refine ⟨rfl, F_bo e1 h1 h2 ⟨by show 0 ≤ 16777216; decide, ?_⟩⟩
      obtain ⟨p, e2, s1, e3⟩ := eqv_bounds nss
      unfold dEq
      split
      · rename_i z1
        cases z1
      · rw [e2, show toPy (.lst []) = some (.list []) from rfl]
        dsimp only
        rw [e3]
        exact ⟨⟨s1, by decide +kernel⟩, h⟩
    · exact h.elim
  · exact h.elim
theorem F_word_M {P Z : D → Prop} (h : P (.str "many 10")) : F_law_word [many 10] P Z := .inr (.inl ⟨rfl, rfl, rfl, h⟩)
theorem F_word_B {P Z : D → Prop} (h : P (.str "monomial")) : F_law_word [badM] P Z := .inr (.inr (.inl ⟨rfl, h⟩))
theorem F_word_L {P Z : D → Prop} (h : P (.str "number 'letters'")) : F_law_word [badL] P Z := .inl ⟨rfl, rfl, rfl, h⟩
theorem F_word_S {P Z : D → Prop} (h : P (.str "stairs")) : F_law_word [badS] P Z := .inr (.inr (.inr ⟨rfl, h⟩))
theorem fine_X {X : List (List Int)} (hX : ∀ ns ∈ X, (ns ≠ [] ∧ ns.length ≤ 4) ∧ ∀ x ∈ ns, 0 ≤ x) (hb : big X = false) (hl : X.length ≤ 10) : FineN 30000 2 (.tuple (X.map rowP)) := fine_rows (by omega) fun ns hn => ⟨(hX ns hn).1.2, fun x hx => ⟨(hX ns hn).2 x hx, by
  unfold big at hb
  rw [List.any_eq_false] at hb
  have h1 := hb ns hn
  rw [decide_eq_true_iff] at h1
  have h2 := (maxL_mem (hX ns hn).1.1).2 x hx
  omega⟩⟩
theorem dEq_sm {x : Str} {P Z : D → Prop} (h : P (.bl true)) : dEq (.str x) (.str x) P Z := by
  have e : (decide (x = x)) = true := by simp
  show P (.bl (decide (x = x)))
  rw [e]
  exact h
/-- the def asked: what is made is what is due -/
theorem asked_ok {f : Nat} {wk : W D} {X : List (List Int)} {P Z : D → Prop} (hX : ∀ ns ∈ X, (ns ≠ [] ∧ ns.length ≤ 4) ∧ ∀ x ∈ ns, 0 ≤ x) (hl : X.length ≤ 1000) (hw : ∀ P' Z' : D → Prop, madeO X P' Z' → wk P' Z') (hp : P (.bl true)) :
    m_law_asked f wk (.sh (.opq f) :: .sh (rowsD X) :: List.replicate 3 .un) { nx := fun _ => P .non, rt := P, er := Z } := by
  have hok : okR X := fun ns hn => ⟨(hX ns hn).1.1, by have := (hX ns hn).1.2; omega⟩
  show m_law_asked f wk [.sh (.opq f), .sh (rowsD X), .un, .un, .un] _
  unfold m_law_asked
  dsimp only [sSq, sPo, eF, aCons, aNil, eVar, noOwn, List.map, List.getElem?_cons_zero, List.getElem?_cons_succ]
  refine ⟨rfl, F_bo (rowsOf_D X) hok hl ?_⟩
  dsimp only [List.set]
  dsimp only [sCaA, eWk, noOwn, List.map, List.getElem?_cons_zero, List.getElem?_cons_succ]
  refine ⟨rfl, hw _ _ ?_⟩
  unfold madeO
  cases hb : big X with
  | true =>
    rw [if_pos rfl]
    refine ⟨by decide +kernel, ?_⟩
    dsimp only [List.set, sFz, sRt, List.getElem?_cons_zero, List.getElem?_cons_succ]
    by_cases h10 : 10 < X.length
    · have eb : boundsT X = [.str "monomial", .str "many 10"] := by unfold boundsT; rw [hb, if_pos rfl, if_pos h10]; rfl
      rw [eb]
      dsimp only [eIf, tBo, DL.e2, eLst, aNil, eVar, List.getElem?_cons_zero, List.getElem?_cons_succ]
      refine ⟨by show 0 ≤ 16777216; decide, ⟨by decide +kernel, by decide +kernel⟩, ?_⟩
      dsimp only [eF, DL.e2, eC, aCons, aNil, eVar, List.getElem?_cons_zero, List.getElem?_cons_succ]
      exact ⟨rfl, F_word_B (dEq_sm (Z := Z) hp)⟩
    · have eb : boundsT X = [.str "monomial"] := by unfold boundsT; rw [hb, if_pos rfl, if_neg h10]; rfl
      rw [eb]
      dsimp only [eIf, tBo, DL.e2, eLst, aNil, eVar, List.getElem?_cons_zero, List.getElem?_cons_succ]
      refine ⟨by show 0 ≤ 16777216; decide, ⟨by decide +kernel, by decide +kernel⟩, ?_⟩
      dsimp only [eF, DL.e2, eC, aCons, aNil, eVar, List.getElem?_cons_zero, List.getElem?_cons_succ]
      exact ⟨rfl, F_word_B (dEq_sm (Z := Z) hp)⟩
  | false =>
    rw [if_neg (by decide)]
    by_cases h10 : X.length ≤ 10
    · rw [if_pos h10]
      refine ⟨by show 0 < 16777216; decide, ?_⟩
      dsimp only [List.set, sFz, sRt, List.getElem?_cons_zero, List.getElem?_cons_succ]
      have eb : boundsT X = [] := by unfold boundsT; rw [hb, if_neg (by decide), if_neg (by omega)]; rfl
      rw [eb]
      dsimp only [eIf, tBo, DL.e2, eLst, aNil, eVar, List.getElem?_cons_zero, List.getElem?_cons_succ]
      refine ⟨by show 0 ≤ 16777216; decide, ⟨by decide +kernel, by decide +kernel⟩, ?_⟩
      dsimp only [eAnd, eF, DL.e2, dIs, DL.isNon, tru, eC, aCons, aNil, eVar, List.getElem?_cons_zero, List.getElem?_cons_succ]
      exact ⟨rfl, F_says_same (toPy_rowsT X) (toPy_rowsT X) (fine_X hX hb h10) hp⟩
    · rw [if_neg h10]
      refine ⟨by decide +kernel, ?_⟩
      dsimp only [List.set, sFz, sRt, List.getElem?_cons_zero, List.getElem?_cons_succ]
      have eb : boundsT X = [.str "many 10"] := by unfold boundsT; rw [hb, if_neg (by decide), if_pos (by omega)]; rfl
      rw [eb]
      dsimp only [eIf, tBo, DL.e2, eLst, aNil, eVar, List.getElem?_cons_zero, List.getElem?_cons_succ]
      refine ⟨by show 0 ≤ 16777216; decide, ⟨by decide +kernel, by decide +kernel⟩, ?_⟩
      dsimp only [eF, DL.e2, eC, aCons, aNil, eVar, List.getElem?_cons_zero, List.getElem?_cons_succ]
      exact ⟨rfl, F_word_M (dEq_sm (Z := Z) hp)⟩
end K62

set_option Elab.async false
set_option linter.all false
set_option maxRecDepth 100000
set_option maxHeartbeats 4000000
namespace K62
open PySem PySem.Spec PyProof.Rows L2 DL
/-! ### least ones are told by who stands under them -/
def nn (n : Nat) (X : List (List Int)) : Prop := ∀ x ∈ X, x.length = n ∧ ∀ a ∈ x, 0 ≤ a
theorem undr_iff {X : List (List Int)} {x : List Int} : undr X x = true ↔ ∃ s ∈ X, divs s x = true := List.any_eq_true
theorem divs_anti : ∀ {a b : List Int}, a.length = b.length → divs a b = true → divs b a = true → a = b
  | [], [], _, _, _ => rfl
  | x :: a, y :: b, h, h1, h2 => by
    have z1 : (decide (x ≤ y) && divs a b) = true := h1
    have z2 : (decide (y ≤ x) && divs b a) = true := h2
    rw [Bool.and_eq_true, decide_eq_true_iff] at z1 z2
    rw [divs_anti (Nat.succ.inj h) z1.2 z2.2, show x = y by omega]
theorem nn_least {n : Nat} {X : List (List Int)} (h : nn n X) : nn n (leastS X) := fun x hx => h x (mem_least hx)
theorem nn_app {n : Nat} {X Y : List (List Int)} (h1 : nn n X) (h2 : nn n Y) : nn n (X ++ Y) := fun x hx => by
  rcases List.mem_append.mp hx with hx | hx
  · exact h1 x hx
  · exact h2 x hx
theorem min_of {X : List (List Int)} {x o : List Int} (h : x ∈ leastS X) (ho : o ∈ X) (hd : divs o x = true) : o = x := Classical.byContradiction fun ne => by
  have := (mem_least2.mp h).2
  unfold isMin at this
  rw [Bool.not_eq_true', List.any_eq_false] at this
  exact this o ho (by rw [hd, decide_eq_false ne]; rfl)
theorem least_half {n : Nat} {X Y : List (List Int)} (hX : nn n X) (hY : nn n Y) (h : ∀ m : List Int, m.length = n → (undr X m = true ↔ undr Y m = true)) {x : List Int} (hx : x ∈ leastS X) : x ∈ Y ∧ isMin Y x = true := by
  have hxX := mem_least hx
  have lx := (hX x hxX).1
  have back : ∀ y ∈ Y, divs y x = true → y = x := fun y hy hd => by
    have ly := (hY y hy).1
    obtain ⟨x', hx', hd'⟩ := undr_iff.mp ((h y ly).mpr (undr_iff.mpr ⟨y, hy, divs_refl _⟩))
    have e := min_of hx hx' (divs_trans _ _ _ (by rw [(hX x' hx').1, ly]) hd' hd)
    rw [e] at hd'
    exact divs_anti (by rw [lx, ly]) hd hd'
  obtain ⟨y, hy, hd⟩ := undr_iff.mp ((h x lx).mp (undr_iff.mpr ⟨x, hxX, divs_refl _⟩))
  refine ⟨by rw [← back y hy hd]; exact hy, ?_⟩
  unfold isMin
  rw [Bool.not_eq_true', List.any_eq_false]
  intro o ho z
  rw [Bool.and_eq_true, Bool.not_eq_true', decide_eq_false_iff_not] at z
  exact z.1 (back o ho z.2)
theorem least_eq_of {n : Nat} {X Y : List (List Int)} (hX : nn n X) (hY : nn n Y) (h : ∀ m : List Int, m.length = n → (undr X m = true ↔ undr Y m = true)) : leastS X = leastS Y :=
  least_uniq (least_srt X) (least_nodup X) fun x => ⟨fun hx => least_half hX hY h hx, fun ⟨h1, h2⟩ => by
    have z := least_half hY hX (fun m hm => (h m hm).symm) (mem_least2.mpr ⟨h1, h2⟩)
    exact mem_least2.mpr z⟩
/-! ### who stands under what is made -/
theorem u_least {n : Nat} {X : List (List Int)} (h : nn n X) (m : List Int) : undr (leastS X) m = true ↔ undr X m = true := by
  have : undr (leastS X) m = undr X m := under_same h
  rw [this]
theorem u_app {X Y : List (List Int)} {m : List Int} : undr (X ++ Y) m = true ↔ undr X m = true ∨ undr Y m = true := by
  unfold undr
  rw [List.any_append, Bool.or_eq_true]
theorem divs_lcm : ∀ {n : Nat} {a b m : List Int}, a.length = n → b.length = n → m.length = n → (divs (lcmR a b) m = true ↔ divs a m = true ∧ divs b m = true)
  | 0, [], [], [], _, _, _ => by simp [divs, lcmR]
  | n + 1, x :: a, y :: b, z :: m, h1, h2, h3 => by
    have ih := divs_lcm (n := n) (a := a) (b := b) (m := m) (Nat.succ.inj h1) (Nat.succ.inj h2) (Nat.succ.inj h3)
    show (decide (max x y ≤ z) && divs (lcmR a b) m) = true ↔ (decide (x ≤ z) && divs a m) = true ∧ (decide (y ≤ z) && divs b m) = true
    rw [Bool.and_eq_true, Bool.and_eq_true, Bool.and_eq_true, ih, decide_eq_true_iff, decide_eq_true_iff, decide_eq_true_iff]
    constructor
    · rintro ⟨h, h4, h5⟩
      exact ⟨⟨by omega, h4⟩, by omega, h5⟩
    · rintro ⟨⟨h4, h5⟩, h6, h7⟩
      exact ⟨by omega, h5, h7⟩
theorem zip_nn {n : Nat} {f : Int → Int → Int} (hf : ∀ x y : Int, 0 ≤ x → 0 ≤ y → 0 ≤ f x y) : ∀ {a b : List Int}, a.length = n → b.length = n → (∀ x ∈ a, 0 ≤ x) → (∀ x ∈ b, 0 ≤ x) → (List.zipWith f a b).length = n ∧ ∀ x ∈ List.zipWith f a b, 0 ≤ x := fun {a b} h1 h2 h3 h4 => by
  refine ⟨by rw [List.length_zipWith, h1, h2, Nat.min_self], fun x hx => ?_⟩
  obtain ⟨i, hi, rfl⟩ := List.getElem_of_mem hx
  rw [List.getElem_zipWith]
  exact hf _ _ (h3 _ (List.getElem_mem _)) (h4 _ (List.getElem_mem _))
theorem nn_prs {n : Nat} {f : Int → Int → Int} (hf : ∀ x y : Int, 0 ≤ x → 0 ≤ y → 0 ≤ f x y) {A B : List (List Int)} (hA : nn n A) (hB : nn n B) : nn n ((prsR A B).map fun q => List.zipWith f q.1 q.2) := fun x hx => by
  obtain ⟨q, hq, rfl⟩ := List.mem_map.mp hx
  obtain ⟨h1, h2⟩ := mem_prs.mp hq
  exact zip_nn hf (hA _ h1).1 (hB _ h2).1 (hA _ h1).2 (hB _ h2).2
theorem nn_met {n : Nat} {A B : List (List Int)} (hA : nn n A) (hB : nn n B) : nn n (metL A B) := nn_prs (fun x y hx hy => by omega) hA hB
theorem nn_prod {n : Nat} {A B : List (List Int)} (hA : nn n A) (hB : nn n B) : nn n (prodL A B) := nn_prs (fun x y hx hy => by omega) hA hB
theorem u_met {n : Nat} {A B : List (List Int)} (hA : nn n A) (hB : nn n B) {m : List Int} (hm : m.length = n) : undr (metL A B) m = true ↔ undr A m = true ∧ undr B m = true := by
  rw [undr_iff, undr_iff, undr_iff]
  constructor
  · rintro ⟨s, hs, hd⟩
    obtain ⟨q, hq, rfl⟩ := List.mem_map.mp hs
    obtain ⟨h1, h2⟩ := mem_prs.mp hq
    obtain ⟨d1, d2⟩ := (divs_lcm (hA _ h1).1 (hB _ h2).1 hm).mp hd
    exact ⟨⟨_, h1, d1⟩, _, h2, d2⟩
  · rintro ⟨⟨a, ha, d1⟩, b, hb, d2⟩
    exact ⟨_, List.mem_map.mpr ⟨(a, b), mem_prs.mpr ⟨ha, hb⟩, rfl⟩, (divs_lcm (hA _ ha).1 (hB _ hb).1 hm).mpr ⟨d1, d2⟩⟩
theorem u_prod {A B : List (List Int)} {m : List Int} : undr (prodL A B) m = true ↔ ∃ a ∈ A, ∃ b ∈ B, divs (prodR a b) m = true := by
  rw [undr_iff]
  constructor
  · rintro ⟨s, hs, hd⟩
    obtain ⟨q, hq, rfl⟩ := List.mem_map.mp hs
    obtain ⟨h1, h2⟩ := mem_prs.mp hq
    exact ⟨_, h1, _, h2, hd⟩
  · rintro ⟨a, ha, b, hb, hd⟩
    exact ⟨_, List.mem_map.mpr ⟨(a, b), mem_prs.mpr ⟨ha, hb⟩, rfl⟩, hd⟩
theorem prod_comm : ∀ a b : List Int, prodR a b = prodR b a
  | [], [] => rfl
  | [], _ :: _ => rfl
  | _ :: _, [] => rfl
  | x :: a, y :: b => by
    show (x + y) :: prodR a b = (y + x) :: prodR b a
    rw [prod_comm a b, Int.add_comm]
theorem prod_assoc : ∀ a b c : List Int, prodR (prodR a b) c = prodR a (prodR b c)
  | [], b, c => by
    show List.zipWith _ (List.zipWith _ [] b) c = List.zipWith _ [] _
    simp
  | _ :: _, [], c => by
    show List.zipWith _ (List.zipWith _ (_ :: _) []) c = List.zipWith _ (_ :: _) (List.zipWith _ [] c)
    simp
  | _ :: _, _ :: _, [] => by
    show List.zipWith _ (List.zipWith _ (_ :: _) (_ :: _)) [] = List.zipWith _ (_ :: _) (List.zipWith _ (_ :: _) [])
    simp
  | x :: a, y :: b, z :: c => by
    show (x + y + z) :: prodR (prodR a b) c = (x + (y + z)) :: prodR a (prodR b c)
    rw [prod_assoc a b c, Int.add_assoc]
theorem prod_mono : ∀ {n : Nat} {a b b' : List Int}, a.length = n → b.length = n → b'.length = n → divs b' b = true → divs (prodR a b') (prodR a b) = true
  | 0, [], [], [], _, _, _, _ => rfl
  | n + 1, x :: a, y :: b, y' :: b', h1, h2, h3, h => by
    have h' : (decide (y' ≤ y) && divs b' b) = true := h
    rw [Bool.and_eq_true, decide_eq_true_iff] at h'
    show (decide (x + y' ≤ x + y) && divs (prodR a b') (prodR a b)) = true
    rw [Bool.and_eq_true, decide_eq_true_iff]
    exact ⟨by omega, prod_mono (n := n) (Nat.succ.inj h1) (Nat.succ.inj h2) (Nat.succ.inj h3) h'.2⟩
end K62

set_option Elab.async false
set_option linter.all false
set_option maxRecDepth 100000
set_option maxHeartbeats 4000000
namespace K62
open PySem PySem.Spec PyProof.Rows L2 DL
section
variable {n : Nat} {A B C X Y : List (List Int)} {m : List Int}
theorem prod_len {a b : List Int} (h1 : a.length = n) (h2 : b.length = n) : (prodR a b).length = n := by
  unfold prodR
  rw [List.length_zipWith, h1, h2, Nat.min_self]
theorem u_prodL (hX : nn n X) (hY : nn n Y) : undr (prodL (leastS X) Y) m = true ↔ undr (prodL X Y) m = true := by
  rw [u_prod, u_prod]
  constructor
  · rintro ⟨a, ha, b, hb, hd⟩
    exact ⟨a, mem_least ha, b, hb, hd⟩
  · rintro ⟨a, ha, b, hb, hd⟩
    obtain ⟨a', ha', hd'⟩ := undr_iff.mp ((u_least hX a).mpr (undr_iff.mpr ⟨a, ha, divs_refl _⟩))
    have la := (hX a ha).1
    have lb := (hY b hb).1
    have la' := (hX a' (mem_least ha')).1
    refine ⟨a', ha', b, hb, divs_trans _ _ _ (by rw [prod_len la' lb, prod_len la lb]) ?_ hd⟩
    rw [prod_comm a' b, prod_comm a b]
    exact prod_mono lb la la' hd'
theorem u_prodc : undr (prodL X Y) m = true ↔ undr (prodL Y X) m = true := by
  rw [u_prod, u_prod]
  constructor
  · rintro ⟨a, ha, b, hb, hd⟩
    exact ⟨b, hb, a, ha, by rw [prod_comm]; exact hd⟩
  · rintro ⟨a, ha, b, hb, hd⟩
    exact ⟨b, hb, a, ha, by rw [prod_comm]; exact hd⟩
theorem u_prodR (hX : nn n X) (hY : nn n Y) : undr (prodL Y (leastS X)) m = true ↔ undr (prodL Y X) m = true := by
  rw [u_prodc, u_prodL hX hY, u_prodc]
theorem u_prod3 : undr (prodL (prodL A B) C) m = true ↔ undr (prodL A (prodL B C)) m = true := by
  have mp : ∀ {U V : List (List Int)} {s : List Int}, s ∈ prodL U V ↔ ∃ a ∈ U, ∃ b ∈ V, s = prodR a b := fun {U V s} => by
    constructor
    · intro hs
      obtain ⟨q, hq, rfl⟩ := List.mem_map.mp hs
      obtain ⟨h1, h2⟩ := mem_prs.mp hq
      exact ⟨_, h1, _, h2, rfl⟩
    · rintro ⟨a, ha, b, hb, rfl⟩
      exact List.mem_map.mpr ⟨(a, b), mem_prs.mpr ⟨ha, hb⟩, rfl⟩
  rw [u_prod, u_prod]
  constructor
  · rintro ⟨s, hs, c, hc, hd⟩
    obtain ⟨a, ha, b, hb, rfl⟩ := mp.mp hs
    exact ⟨a, ha, prodR b c, mp.mpr ⟨b, hb, c, hc, rfl⟩, by rw [← prod_assoc]; exact hd⟩
  · rintro ⟨a, ha, s, hs, hd⟩
    obtain ⟨b, hb, c, hc, rfl⟩ := mp.mp hs
    exact ⟨prodR a b, mp.mpr ⟨a, ha, b, hb, rfl⟩, c, hc, by rw [prod_assoc]; exact hd⟩
theorem u_prod_app : undr (prodL (A ++ B) C) m = true ↔ undr (prodL A C) m = true ∨ undr (prodL B C) m = true := by
  rw [u_prod, u_prod, u_prod]
  constructor
  · rintro ⟨a, ha, b, hb, hd⟩
    rcases List.mem_append.mp ha with ha | ha
    · exact .inl ⟨a, ha, b, hb, hd⟩
    · exact .inr ⟨a, ha, b, hb, hd⟩
  · rintro (⟨a, ha, b, hb, hd⟩ | ⟨a, ha, b, hb, hd⟩)
    · exact ⟨a, List.mem_append_left _ ha, b, hb, hd⟩
    · exact ⟨a, List.mem_append_right _ ha, b, hb, hd⟩
theorem I1 (hA : nn n A) (hB : nn n B) (hC : nn n C) : leastS (metL (leastS (metL A B)) C) = leastS (metL A (leastS (metL B C))) :=
  least_eq_of (nn_met (nn_least (nn_met hA hB)) hC) (nn_met hA (nn_least (nn_met hB hC))) fun m hm => by
    rw [u_met (nn_least (nn_met hA hB)) hC hm, u_met hA (nn_least (nn_met hB hC)) hm, u_least (nn_met hA hB), u_least (nn_met hB hC), u_met hA hB hm, u_met hB hC hm, and_assoc]
theorem I2 (hA : nn n A) (hB : nn n B) (hC : nn n C) : leastS (leastS (A ++ B) ++ C) = leastS (A ++ leastS (B ++ C)) :=
  least_eq_of (nn_app (nn_least (nn_app hA hB)) hC) (nn_app hA (nn_least (nn_app hB hC))) fun m hm => by
    rw [u_app, u_app, u_least (nn_app hA hB), u_least (nn_app hB hC), u_app, u_app, or_assoc]
theorem I3 (hA : nn n A) (hB : nn n B) (hC : nn n C) : leastS (prodL (leastS (prodL A B)) C) = leastS (prodL A (leastS (prodL B C))) :=
  least_eq_of (nn_prod (nn_least (nn_prod hA hB)) hC) (nn_prod hA (nn_least (nn_prod hB hC))) fun m hm => by
    rw [u_prodL (nn_prod hA hB) hC, u_prodR (nn_prod hB hC) hA, u_prod3]
theorem I4 (hA : nn n A) (hB : nn n B) (hC : nn n C) : leastS (metL (leastS (A ++ B)) C) = leastS (leastS (metL A C) ++ leastS (metL B C)) :=
  least_eq_of (nn_met (nn_least (nn_app hA hB)) hC) (nn_app (nn_least (nn_met hA hC)) (nn_least (nn_met hB hC))) fun m hm => by
    rw [u_met (nn_least (nn_app hA hB)) hC hm, u_app, u_least (nn_app hA hB), u_least (nn_met hA hC), u_least (nn_met hB hC), u_met hA hC hm, u_met hB hC hm, u_app, or_and_right]
theorem I5 (hA : nn n A) (hB : nn n B) (hC : nn n C) : leastS (leastS (metL A B) ++ C) = leastS (metL (leastS (A ++ C)) (leastS (B ++ C))) :=
  least_eq_of (nn_app (nn_least (nn_met hA hB)) hC) (nn_met (nn_least (nn_app hA hC)) (nn_least (nn_app hB hC))) fun m hm => by
    rw [u_met (nn_least (nn_app hA hC)) (nn_least (nn_app hB hC)) hm, u_app, u_least (nn_met hA hB), u_least (nn_app hA hC), u_least (nn_app hB hC), u_met hA hB hm, u_app, u_app, and_or_right]
theorem I6 (hA : nn n A) (hB : nn n B) (hC : nn n C) : leastS (prodL (leastS (A ++ B)) C) = leastS (leastS (prodL A C) ++ leastS (prodL B C)) :=
  least_eq_of (nn_prod (nn_least (nn_app hA hB)) hC) (nn_app (nn_least (nn_prod hA hC)) (nn_least (nn_prod hB hC))) fun m hm => by
    rw [u_prodL (nn_app hA hB) hC, u_app, u_least (nn_prod hA hC), u_least (nn_prod hB hC), u_prod_app]
theorem I7 : leastS (A ++ B) = leastS (B ++ A) := least_same fun x => by
  rw [List.mem_append, List.mem_append, or_comm]
theorem I8 (hA : nn n A) (hB : nn n B) : leastS (metL A B) = leastS (metL B A) := least_eq_of (nn_met hA hB) (nn_met hB hA) fun m hm => by
  rw [u_met hA hB hm, u_met hB hA hm, and_comm]
theorem I9 (hA : nn n A) (hB : nn n B) : leastS (prodL A B) = leastS (prodL B A) := least_eq_of (nn_prod hA hB) (nn_prod hB hA) fun m hm => u_prodc
end
theorem over_divs : ∀ {n : Nat} {s x m : List Int}, s.length = n → x.length = n → m.length = n → (∀ a ∈ m, 0 ≤ a) → divs (overR s x) m = divs s (prodR m x)
  | 0, [], [], [], _, _, _, _ => rfl
  | n + 1, p :: s, l :: x, a :: m, h1, h2, h3, h => by
    show (decide (max 0 (p - l) ≤ a) && divs (overR s x) m) = (decide (p ≤ a + l) && divs s (prodR m x))
    rw [over_divs (n := n) (Nat.succ.inj h1) (Nat.succ.inj h2) (Nat.succ.inj h3) fun b hb => h b (List.mem_cons_of_mem _ hb)]
    have := h a List.mem_cons_self
    congr 1
    by_cases q : p ≤ a + l
    · rw [decide_eq_true q, decide_eq_true (by omega)]
    · rw [decide_eq_false q, decide_eq_false (by omega)]
theorem nn_over {n : Nat} {A : List (List Int)} {x : List Int} (hA : nn n A) (hx : x.length = n) : nn n (overL A x) := fun y hy => by
  obtain ⟨s, hs, rfl⟩ := List.mem_map.mp hy
  unfold overR
  refine ⟨by rw [List.length_zipWith, (hA s hs).1, hx, Nat.min_self], fun a ha => ?_⟩
  obtain ⟨i, hi, rfl⟩ := List.getElem_of_mem ha
  rw [List.getElem_zipWith]
  omega
theorem u_over {n : Nat} {A : List (List Int)} {x m : List Int} (hA : nn n A) (hx : x.length = n) (hm : m.length = n) (h0 : ∀ a ∈ m, 0 ≤ a) : undr (overL A x) m = undr A (prodR m x) := by
  unfold undr overL
  rw [List.any_map]
  rw [Bool.eq_iff_iff, List.any_eq_true, List.any_eq_true]
  constructor
  · rintro ⟨s, hs, hd⟩
    exact ⟨s, hs, by rw [← over_divs (hA s hs).1 hx hm h0]; exact hd⟩
  · rintro ⟨s, hs, hd⟩
    exact ⟨s, hs, by show divs (overR s x) m = true; rw [over_divs (hA s hs).1 hx hm h0]; exact hd⟩
end K62

set_option Elab.async false
set_option linter.all false
set_option maxRecDepth 100000
set_option maxHeartbeats 4000000
namespace K62
open PySem PySem.Spec PyProof.Rows L2 DL
local macro_rules | `(tactic| walk_at "dd") => `(tactic| dsimp only [sSq, sRt, sRn, sDr, sSet, sPr, sTg, sIf, sBk, sCt, sNil, sApp, sFz, sNx, sLi, sPq, sDn, eVar, eC, e1, e2, eIf, aNil, aCons, eA, tNt, tAn, tOo, eAnd, eOr, eNot, eTup, eLst, tBo, eLc, eSl, oNo, oSo, eF, eFM, eCh, tTrue, iOf, iZp, iEn, aStar, sExt, sCat, sCaA, bMaxLs, iRg1, iRg2, tgN, tg2, List.set, List.getElem?_cons_zero, List.getElem?_cons_succ, List.map, List.replicate, List.append, List.cons_append, List.nil_append, fnW, noOwn, blkE, kilE, bTup, bSum, bMin2, bMax2, bLen, bLst, bSrt, bMaxT, List.getD_cons_zero, List.getD_cons_succ])
set_option simprocs false
theorem lets_i {L : Int} {p : Int → W D} {P Z : D → Prop} (h1 : 1 ≤ L) (h2 : L ≤ 4) (h : p L P Z) : lets (.int L) p P Z := ⟨nofun, by rw [show good (.int L) 1 4 = true from decide_eq_true ⟨h1, h2⟩, if_pos rfl]; exact h⟩
theorem lets_bad {a : D} {p : Int → W D} {P Z : D → Prop} (h1 : tyN a ≠ none) (h2 : good a 1 4 = false) (h : Z badL) : lets a p P Z := ⟨h1, by rw [h2, if_neg (by decide)]; exact h⟩
theorem isPl_rows (X : List (List Int)) : isPl (rowsD X) := by
  unfold isPl rowsD
  rw [toPy_rowsT]
  rfl
def told (X : List (List Int)) : Bool := !big X && decide (X.length ≤ 10)
theorem ok_nn {l : Int} {X : List (List Int)} (h1 : 1 ≤ l) (h2 : l ≤ 4) (h : nn l.toNat X) : okR X := fun ns hn => by
  have := (h ns hn).1
  refine ⟨fun e => ?_, by omega⟩
  rw [e] at this
  simp at this
  omega
theorem hX_nn {l : Int} {X : List (List Int)} (h1 : 1 ≤ l) (h2 : l ≤ 4) (h : nn l.toNat X) : ∀ ns ∈ X, (ns ≠ [] ∧ ns.length ≤ 4) ∧ ∀ x ∈ ns, 0 ≤ x := fun ns hn => by
  have := (h ns hn).1
  exact ⟨⟨(ok_nn h1 h2 h ns hn).1, by omega⟩, (h ns hn).2⟩
theorem st_told {l : Int} {X : List (List Int)} (h1 : 1 ≤ l) (h2 : l ≤ 4) (h : nn l.toNat X) (ne : 1 ≤ X.length) (lm : leastS X = X) (ht : told X = true) : stB l (rowsD X) = true ∧ X.length ≤ 10 := by
  unfold told at ht
  obtain ⟨t1, t2⟩ := Bool.and_eq_true_iff.mp ht
  rw [Bool.not_eq_true'] at t1
  have t3 := of_decide_eq_true t2
  refine ⟨?_, t3⟩
  rw [rows_stB ne t3 fun ns hn => ⟨by have := (h ns hn).1; omega, fun x hx => ⟨(h ns hn).2 x hx, ?_⟩⟩]
  · exact decide_eq_true lm
  · unfold big at t1
    rw [List.any_eq_false] at t1
    have z1 := t1 ns hn
    rw [decide_eq_true_iff] at z1
    have z2 := (maxL_mem (ok_nn h1 h2 h ns hn).1).2 x hx
    omega
theorem F_lm {A B : List (List Int)} {P Z : D → Prop} (h1 : okR A) (h2 : okR B) (h3 : A.length * B.length ≤ 1000) (h4 : A.length ≤ 1000) (h5 : B.length ≤ 1000) (h : P (rowsD (leastS (metL A B)))) : F_law_met [rowsD A, rowsD B] P Z := by
  unfold F_law_met
  dsimp only
  rw [rowsOf_D, rowsOf_D]
  exact ⟨⟨⟨h1, h2⟩, h3, h4, h5⟩, h⟩
theorem F_lp {A B : List (List Int)} {P Z : D → Prop} (h1 : okR A) (h2 : okR B) (h3 : A.length * B.length ≤ 1000) (h4 : A.length ≤ 1000) (h5 : B.length ≤ 1000) (h : P (rowsD (leastS (prodL A B)))) : F_law_products [rowsD A, rowsD B] P Z := by
  unfold F_law_products
  dsimp only
  rw [rowsOf_D, rowsOf_D]
  exact ⟨⟨⟨h1, h2⟩, h3, h4, h5⟩, h⟩
theorem F_la {A B : List (List Int)} {P Z : D → Prop} (h1 : okR A) (h2 : okR B) (h4 : A.length ≤ 500) (h5 : B.length ≤ 500) (h : P (rowsD (leastS (A ++ B)))) : dAdd (rowsD A) (rowsD B) (fun d => [d].length = 1 ∧ F_law_least [d] P Z) Z := by
  unfold rowsD
  refine dAdd_tt (Z := Z) (by rw [List.length_map, List.length_map]; omega) ?_
  rw [mapmap]
  refine ⟨rfl, F_ll (fun ns hn => ?_) (by rw [List.length_append]; omega) h⟩
  rcases List.mem_append.mp hn with hn | hn
  · exact h1 ns hn
  · exact h2 ns hn
theorem F_to {X : List (List Int)} {P Z : D → Prop} (h1 : okR X) (h2 : X.length ≤ 1000) (h : P (.bl (told X))) : F_law_is_told [rowsD X] P Z := by
  unfold F_law_is_told
  dsimp only
  rw [rowsOf_D]
  exact ⟨⟨h1, h2⟩, h⟩
theorem F_sb {l : Int} {A B : List (List Int)} {P Z : D → Prop} (h1 : 1 ≤ l) (h2 : l ≤ 4) (sA : stB l (rowsD A) = true) (sB : stB l (rowsD B) = true) (h3 : A.length * B.length < 64) (h : madeO (leastS (metL A B)) P Z) : F_stairs_both [.int l, rowsD A, rowsD B] P Z := by
  unfold F_stairs_both
  refine lets_i h1 h2 ⟨isPl_rows A, ?_⟩
  rw [sA, if_pos rfl]
  refine ⟨isPl_rows B, ?_⟩
  rw [sB, if_pos rfl, rowsOf_D, rowsOf_D]
  exact ⟨h3, h⟩
theorem F_st {l : Int} {A B : List (List Int)} {P Z : D → Prop} (h1 : 1 ≤ l) (h2 : l ≤ 4) (sA : stB l (rowsD A) = true) (sB : stB l (rowsD B) = true) (h3 : A.length * B.length < 64) (h : madeO (leastS (prodL A B)) P Z) : F_stairs_times [.int l, rowsD A, rowsD B] P Z := by
  unfold F_stairs_times
  refine lets_i h1 h2 ⟨isPl_rows A, ?_⟩
  rw [sA, if_pos rfl]
  refine ⟨isPl_rows B, ?_⟩
  rw [sB, if_pos rfl, rowsOf_D, rowsOf_D]
  exact ⟨h3, h⟩
theorem F_ss {l : Int} {A B : List (List Int)} {P Z : D → Prop} (h1 : 1 ≤ l) (h2 : l ≤ 4) (sA : stB l (rowsD A) = true) (sB : stB l (rowsD B) = true) (h : madeO (leastS (A ++ B)) P Z) : F_stairs_sum [.int l, rowsD A, rowsD B] P Z := by
  unfold F_stairs_sum
  refine lets_i h1 h2 ⟨isPl_rows A, ?_⟩
  rw [sA, if_pos rfl]
  refine ⟨isPl_rows B, ?_⟩
  rw [sB, if_pos rfl, rowsOf_D, rowsOf_D]
  exact h
theorem ask_i {Y : List (List Int)} {mb md : EM} {env : Ev} {P Z : D → Prop} {l : Int} (h1 : 1 ≤ l) (h2 : l ≤ 4) (hY : nn l.toNat Y) (hl : Y.length ≤ 1000) (hd : ∀ R : D → Prop, R (rowsD Y) → md (env.map noOwn) R Z)
    (hb : ∀ P' Z' : D → Prop, madeO Y P' Z' → mb (env.map noOwn) P' Z') (hp : P (.bl true)) : eAsk2 5 m_law_asked mb md env P Z :=
  hd _ fun f => asked_ok (hX_nn h1 h2 hY) hl hb hp
/-- told, and then asked: nothing is wrong -/
theorem told_ask {X : List (List Int)} {a ask : EM} {env : Ev} (ha : ∀ (P Z : D → Prop), P (.bl (told X)) → a env P Z) (hk : told X = true → ∀ (P Z : D → Prop), P (.bl true) → ask env P Z) : ∀ (P : Bool → Prop) (Z : D → Prop), P false → tAn (tTru a) (tNt (tTru ask)) env P Z := fun P Z hp => by
  dsimp only [tAn, tTru, tNt]
  refine ha _ _ ?_
  dsimp only [tru]
  cases q : told X with
  | false =>
    rw [if_neg (by decide)]
    exact hp
  | true =>
    rw [if_pos rfl]
    exact hk q _ _ hp
end K62

set_option Elab.async false
set_option linter.all false
set_option maxRecDepth 100000
set_option maxHeartbeats 4000000
namespace K62
open PySem PySem.Spec PyProof.Rows L2 DL
local macro_rules | `(tactic| walk_at "dd") => `(tactic| dsimp only [sSq, sRt, sRn, sDr, sSet, sPr, sTg, sIf, sBk, sCt, sNil, sApp, sFz, sNx, sLi, sPq, sDn, eVar, eC, e1, e2, eIf, aNil, aCons, eA, tNt, tAn, tOo, eAnd, eOr, eNot, eTup, eLst, tBo, eLc, eSl, oNo, oSo, eF, eFM, eCh, tTrue, iOf, iZp, iEn, aStar, sExt, sCat, sCaA, bMaxLs, iRg1, iRg2, tgN, tg2, List.set, List.getElem?_cons_zero, List.getElem?_cons_succ, List.map, List.replicate, List.append, List.cons_append, List.nil_append, fnW, noOwn, blkE, kilE, bTup, bSum, bMin2, bMax2, bLen, bLst, bSrt, bMaxT, List.getD_cons_zero, List.getD_cons_succ])
set_option simprocs false
theorem nn_of {l : Int} {A : List (List Int)} (h1 : 1 ≤ l) (h : boxR l A) : nn l.toNat A := fun x hx => ⟨by have := (h x hx).1; omega, fun a ha => ((h x hx).2 a ha).1⟩
local macro_rules | `(tactic| walk_at "ff") => `(tactic| dsimp only [eF, DL.e2, eC, aCons, aNil, eVar, noOwn, List.map, List.getElem?_cons_zero, List.getElem?_cons_succ])
theorem i_law_brackets_right : ∀ ds Q Z, F_law_brackets_right ds Q Z → fnW 7 4 m_law_brackets_right ds Q Z := by
  intro ds Q Z h
  unfold F_law_brackets_right at h
  split at h
  · rename_i l a b c
    split at h
    · rename_i A B C eA eB eC
      obtain ⟨⟨sA, sB, sC, ⟨h1, h2⟩, lA, lB, lC⟩, h⟩ := h
      have ea : a = A.map rowD := itsOf_eq eA
      have eb : b = B.map rowD := itsOf_eq eB
      have ec : c = C.map rowD := itsOf_eq eC
      subst ea eb ec
      have gA : ∀ X : List (List Int), stB l (.tup (X.map rowD)) = true → boxR l X ∧ 1 ≤ X.length ∧ leastS X = X := fun X hX => by
        obtain ⟨X2, e, n1, n2, n3, n4⟩ := stB_rows hX
        have eX : X = X2 := by
          unfold rowsD at e
          have z := congrArg itsOf (D.tup.inj e)
          rw [itsOf_rows, itsOf_rows] at z
          exact Option.some.inj z
        subst eX
        exact ⟨n3, n1, n4⟩
      obtain ⟨bA, neA, mA⟩ := gA A sA
      obtain ⟨bB, neB, mB⟩ := gA B sB
      obtain ⟨bC, neC, mC⟩ := gA C sC
      have nA := nn_of h1 bA
      have nB := nn_of h1 bB
      have nC := nn_of h1 bC
      have oA := ok_nn h1 h2 nA
      have oB := ok_nn h1 h2 nB
      have oC := ok_nn h1 h2 nC
      have lAB : A.length * B.length ≤ 25 := Nat.mul_le_mul lA lB
      have lAC : A.length * C.length ≤ 15 := Nat.mul_le_mul lA lC
      have lBC : B.length * C.length ≤ 15 := Nat.mul_le_mul lB lC
      have len_met : ∀ X Y : List (List Int), (leastS (metL X Y)).length ≤ X.length * Y.length := fun X Y => by
        have := least_len (metL X Y)
        unfold metL at this ⊢
        rw [List.length_map, prs_len] at this
        exact this
      have len_prod : ∀ X Y : List (List Int), (leastS (prodL X Y)).length ≤ X.length * Y.length := fun X Y => by
        have := least_len (prodL X Y)
        unfold prodL at this ⊢
        rw [List.length_map, prs_len] at this
        exact this
      have len_app : ∀ X Y : List (List Int), (leastS (X ++ Y)).length ≤ X.length + Y.length := fun X Y => by
        have := least_len (X ++ Y)
        rwa [List.length_append] at this
      have nM := nn_least (nn_met nA nB)
      have nW := nn_least (nn_app nA nB)
      have nT := nn_least (nn_prod nA nB)
      have posAB : 1 ≤ A.length * B.length := Nat.mul_le_mul neA neB
      have neM : 1 ≤ (leastS (metL A B)).length := least_ne (nn_met nA nB) (by unfold metL; rw [List.length_map, prs_len]; exact posAB)
      have neW : 1 ≤ (leastS (A ++ B)).length := least_ne (nn_app nA nB) (by rw [List.length_append]; omega)
      have neT : 1 ≤ (leastS (prodL A B)).length := least_ne (nn_prod nA nB) (by unfold prodL; rw [List.length_map, prs_len]; exact posAB)
      have i1 := I1 nA nB nC
      have i2 := I2 nA nB nC
      have i3 := I3 nA nB nC
      have i4 := I4 nA nB nC
      have i5 := I5 nA nB nC
      have i6 := I6 nA nB nC
      have cM := len_met A B
      have cW := len_app A B
      have cT := len_prod A B
      have mM := least_idem (metL A B)
      have mW := least_idem (A ++ B)
      have mT := least_idem (prodL A B)
      refine ⟨rfl, ?_⟩
      show m_law_brackets_right [.sh (.int l), .sh (rowsD A), .sh (rowsD B), .sh (rowsD C), .un, .un, .un] _
      unfold m_law_brackets_right
      dsimp only [sSq, sTg, eTup]
      walk_at "ff"
      refine ⟨rfl, F_lm oA oB (by omega) (by omega) (by omega) ?_⟩
      refine F_la oA oB (by omega) (by omega) ?_
      refine ⟨rfl, F_lp oA oB (by omega) (by omega) (by omega) ?_⟩
      refine ⟨by show 3 ≤ 16777216; decide, ?_⟩
      dsimp only [tg3, List.set]
      generalize leastS (metL A B) = M at nM neM cM mM i1 i5 ⊢
      generalize leastS (A ++ B) = W at nW neW cW mW i2 i4 i6 ⊢
      generalize leastS (prodL A B) = T at nT neT cT mT i3 ⊢
      have lMC : M.length ≤ 10 → M.length * C.length < 64 := fun q => by
        have : M.length * C.length ≤ 10 * 3 := Nat.mul_le_mul q lC
        omega
      have lWC : W.length ≤ 10 → W.length * C.length < 64 := fun q => by
        have : W.length * C.length ≤ 10 * 3 := Nat.mul_le_mul q lC
        omega
      have lTC : T.length ≤ 10 → T.length * C.length < 64 := fun q => by
        have : T.length * C.length ≤ 10 * 3 := Nat.mul_le_mul q lC
        omega
      have tM : ∀ (P Z : D → Prop), P (.bl (told M)) → eF 1 F_law_is_told (aCons (eVar 4) aNil) [.sh (.int l), .sh (rowsD A), .sh (rowsD B), .sh (rowsD C), .sh (rowsD M), .sh (rowsD W), .sh (rowsD T)] P Z := fun P Z hp => ⟨rfl, F_to (ok_nn h1 h2 nM) (by omega) hp⟩
      have tW : ∀ (P Z : D → Prop), P (.bl (told W)) → eF 1 F_law_is_told (aCons (eVar 5) aNil) [.sh (.int l), .sh (rowsD A), .sh (rowsD B), .sh (rowsD C), .sh (rowsD M), .sh (rowsD W), .sh (rowsD T)] P Z := fun P Z hp => ⟨rfl, F_to (ok_nn h1 h2 nW) (by omega) hp⟩
      have tT : ∀ (P Z : D → Prop), P (.bl (told T)) → eF 1 F_law_is_told (aCons (eVar 6) aNil) [.sh (.int l), .sh (rowsD A), .sh (rowsD B), .sh (rowsD C), .sh (rowsD M), .sh (rowsD W), .sh (rowsD T)] P Z := fun P Z hp => ⟨rfl, F_to (ok_nn h1 h2 nT) (by omega) hp⟩
      have cBCm := len_met B C
      have cBCa := len_app B C
      have cACa := len_app A C
      have cBCp := len_prod B C
      have cACm := len_met A C
      have cACp := len_prod A C
      have oBCm := ok_nn h1 h2 (nn_least (nn_met nB nC))
      have oBCa := ok_nn h1 h2 (nn_least (nn_app nB nC))
      have oBCp := ok_nn h1 h2 (nn_least (nn_prod nB nC))
      have oACm := ok_nn h1 h2 (nn_least (nn_met nA nC))
      have oACa := ok_nn h1 h2 (nn_least (nn_app nA nC))
      have oACp := ok_nn h1 h2 (nn_least (nn_prod nA nC))
      have p1 : A.length * (leastS (metL B C)).length ≤ 5 * 15 := Nat.mul_le_mul lA (by omega)
      have p3 : A.length * (leastS (prodL B C)).length ≤ 5 * 15 := Nat.mul_le_mul lA (by omega)
      have p5 : (leastS (A ++ C)).length * (leastS (B ++ C)).length ≤ 8 * 8 := Nat.mul_le_mul (by omega) (by omega)
      refine sIf_no2 (told_ask tM fun q P Z hp => ?_) ?_
      · obtain ⟨sM, lM⟩ := st_told h1 h2 nM neM mM q
        refine ask_i h1 h2 (nn_least (nn_met nA (nn_least (nn_met nB nC)))) (Nat.le_trans (len_met _ _) (by omega)) (fun R hR => ?_) (fun P' Z' hm => ?_) hp
        · walk_at "ff"
          exact ⟨rfl, F_lm oB oC (by omega) (by omega) (by omega) ⟨rfl, F_lm oA oBCm (by omega) (by omega) (by omega) hR⟩⟩
        · walk_at "ff"
          rw [← i1] at hm
          exact ⟨rfl, F_sb h1 h2 sM sC (lMC lM) hm⟩
      refine sIf_no2 (told_ask tW fun q P Z hp => ?_) ?_
      · obtain ⟨sW, lW⟩ := st_told h1 h2 nW neW mW q
        refine ask_i h1 h2 (nn_least (nn_app nA (nn_least (nn_app nB nC)))) (Nat.le_trans (len_app _ _) (by omega)) (fun R hR => ?_) (fun P' Z' hm => ?_) hp
        · walk_at "ff"
          exact F_la oB oC (by omega) (by omega) (F_la oA oBCa (by omega) (by omega) hR)
        · walk_at "ff"
          rw [← i2] at hm
          exact ⟨rfl, F_ss h1 h2 sW sC hm⟩
      refine sIf_no2 (told_ask tT fun q P Z hp => ?_) ?_
      · obtain ⟨sT, lT⟩ := st_told h1 h2 nT neT mT q
        refine ask_i h1 h2 (nn_least (nn_prod nA (nn_least (nn_prod nB nC)))) (Nat.le_trans (len_prod _ _) (by omega)) (fun R hR => ?_) (fun P' Z' hm => ?_) hp
        · walk_at "ff"
          exact ⟨rfl, F_lp oB oC (by omega) (by omega) (by omega) ⟨rfl, F_lp oA oBCp (by omega) (by omega) (by omega) hR⟩⟩
        · walk_at "ff"
          rw [← i3] at hm
          exact ⟨rfl, F_st h1 h2 sT sC (lTC lT) hm⟩
      refine sIf_no2 (told_ask tW fun q P Z hp => ?_) ?_
      · obtain ⟨sW, lW⟩ := st_told h1 h2 nW neW mW q
        refine ask_i h1 h2 (nn_least (nn_app (nn_least (nn_met nA nC)) (nn_least (nn_met nB nC)))) (Nat.le_trans (len_app _ _) (by omega)) (fun R hR => ?_) (fun P' Z' hm => ?_) hp
        · walk_at "ff"
          exact ⟨rfl, F_lm oA oC (by omega) (by omega) (by omega) ⟨rfl, F_lm oB oC (by omega) (by omega) (by omega) (F_la oACm oBCm (by omega) (by omega) hR)⟩⟩
        · walk_at "ff"
          rw [← i4] at hm
          exact ⟨rfl, F_sb h1 h2 sW sC (lWC lW) hm⟩
      refine sIf_no2 (told_ask tM fun q P Z hp => ?_) ?_
      · obtain ⟨sM, lM⟩ := st_told h1 h2 nM neM mM q
        refine ask_i h1 h2 (nn_least (nn_met (nn_least (nn_app nA nC)) (nn_least (nn_app nB nC)))) (Nat.le_trans (len_met _ _) (by omega)) (fun R hR => ?_) (fun P' Z' hm => ?_) hp
        · walk_at "ff"
          exact F_la oA oC (by omega) (by omega) (F_la oB oC (by omega) (by omega) ⟨rfl, F_lm oACa oBCa (by omega) (by omega) (by omega) hR⟩)
        · walk_at "ff"
          rw [← i5] at hm
          exact ⟨rfl, F_ss h1 h2 sM sC hm⟩
      dsimp only [sRt, eOr, eNot]
      refine tW _ _ ?_
      dsimp only [tru]
      cases q : told W with
      | false =>
        rw [Bool.not_false, if_pos rfl]
        exact h
      | true =>
        rw [Bool.not_true, if_neg (by decide)]
        obtain ⟨sW, lW⟩ := st_told h1 h2 nW neW mW q
        refine ask_i h1 h2 (nn_least (nn_app (nn_least (nn_prod nA nC)) (nn_least (nn_prod nB nC)))) (Nat.le_trans (len_app _ _) (by omega)) (fun R hR => ?_) (fun P' Z' hm => ?_) h
        · walk_at "ff"
          exact ⟨rfl, F_lp oA oC (by omega) (by omega) (by omega) ⟨rfl, F_lp oB oC (by omega) (by omega) (by omega) (F_la oACp oBCp (by omega) (by omega) hR)⟩⟩
        · walk_at "ff"
          rw [← i6] at hm
          exact ⟨rfl, F_st h1 h2 sW sC (lWC lW) hm⟩
    · exact h.elim
  · exact h.elim
end K62

set_option Elab.async false
set_option linter.all false
set_option maxRecDepth 100000
set_option maxHeartbeats 4000000
namespace K62
open PySem PySem.Spec PyProof.Rows L2 DL
section
variable {P : Program} {w : World} {K : PySem.W.Frag} {mg : Str → Option Value} {base : Heap} {T : List (Addr × Str)}
theorem de_with {T : List (Addr × Str)} {n : Nat} {X : Cx} {g : Gd} {B : Hp × Hp} {E : XK} {e : Expr} {m : EM} (c : CxK T n X g E) (h : CxK T n X g E → DE X g B E e m) : DE X g B E e m := h c
theorem famL_ok {n : Nat} (hn : 7 ≤ n) (f0 : FnD P w K mg base T 7 "stairs_sum" (top 31) ["letters", "one", "other"] F_stairs_sum) (f1 : FnD P w K mg base T 7 "stairs_both" (top 32) ["letters", "one", "other"] F_stairs_both) (f2 : FnD P w K mg base T 7 "stairs_times" (top 33) ["letters", "one", "other"] F_stairs_times) (f3 : FnD P w K mg base T 6 "stairs_over" (top 34) ["letters", "stairs", "monomial"] F_stairs_over) : ∀ y nF, famL y = some nF → ∃ k st ps, k ≤ n ∧ ps.length = nF.1 ∧ FnD P w K mg base T k y st ps nF.2 := fun y nF e => by
  unfold famL at e
  split at e
  · rename_i h
    subst h
    cases e
    exact ⟨7, _, _, by omega, rfl, f0⟩
  · split at e
    · rename_i h
      subst h
      cases e
      exact ⟨7, _, _, by omega, rfl, f1⟩
    · split at e
      · rename_i h
        subst h
        cases e
        exact ⟨7, _, _, by omega, rfl, f2⟩
      · split at e
        · rename_i h
          subst h
          cases e
          exact ⟨6, _, _, by omega, rfl, f3⟩
        · cases e
def m_law : SM := (sSq (sFor (tgN 2) [2, 3, 4, 5, 6, 7, 8, 9, 10, 11, 12, 13, 14, 15, 16, 17, 18, 19, 20, 21, 22, 23] (iRg1 (e2 dAdd (eC (.int 3)) (eA bMin2 (aCons (eA bLen (aCons (eVar 0) aNil)) (aCons (eC (.int 6)) aNil))))) (sSq (sSet 3 (e2 dAdd (eC (.int 1)) (eF 2 F_law_take (aCons (eVar 1) (aCons (eC (.int 4)) aNil)))))
  (sSq (sTg (tg3 8 9 10) (eTup (aCons (eF 3 F_law_drawn (aCons (eVar 1) (aCons (eVar 3) (aCons (eC (.int 5)) aNil)))) (aCons (eF 3 F_law_drawn (aCons (eVar 1) (aCons (eVar 3) (aCons (eC (.int 5)) aNil)))) (aCons (eF 3 F_law_drawn (aCons (eVar 1) (aCons (eVar 3) (aCons (eC (.int 3)) aNil)))) aNil)))))
  (sSq (sSet 4 (eF 3 F_law_monomial (aCons (eVar 1) (aCons (eVar 3) (aCons (eF 2 F_law_pick (aCons (eVar 1) (aCons (eLst (aCons (eC (.int 2)) (aCons (eC (.int 6)) aNil))) aNil))) aNil)))))
  (sSq (sTg (tg4 11 12 13 14) (eTup (aCons (eF 2 F_law_met (aCons (eVar 8) (aCons (eVar 9) aNil))) (aCons (eF 1 F_law_least (aCons (e2 dAdd (eVar 8) (eVar 9)) aNil)) (aCons (eF 2 F_law_products (aCons (eVar 8) (aCons (eVar 9) aNil))) (aCons (eF 2 F_law_over (aCons (eVar 8) (aCons (eVar 4) aNil))) aNil))))))
  (sSq (sIf (tNt (tTru (eAsk2 5 m_law_asked (eFM 2 1 [0, 1, 2] F_stairs_sum (aCons (eVar 3) (aCons (eVar 8) aNil)) (aCons (eVar 9) aNil)) (eVar 12)))) (sRt (eC (.bl false))) sNx)
  (sSq (sIf (tNt (tTru (eAsk2 5 m_law_asked (eF 3 F_stairs_sum (aCons (eVar 3) (aCons (eVar 9) (aCons (eVar 8) aNil)))) (eVar 12)))) (sRt (eC (.bl false))) sNx)
  (sSq (sIf (tNt (tTru (eAsk2 5 m_law_asked (eFM 2 1 [0, 1, 2] F_stairs_both (aCons (eVar 3) (aCons (eVar 8) aNil)) (aCons (eVar 9) aNil)) (eVar 11)))) (sRt (eC (.bl false))) sNx)
  (sSq (sIf (tNt (tTru (eAsk2 5 m_law_asked (eF 3 F_stairs_both (aCons (eVar 3) (aCons (eVar 9) (aCons (eVar 8) aNil)))) (eVar 11)))) (sRt (eC (.bl false))) sNx)
  (sSq (sIf (tNt (tTru (eAsk2 5 m_law_asked (eFM 2 1 [0, 1, 2] F_stairs_times (aCons (eVar 3) (aCons (eVar 8) aNil)) (aCons (eVar 9) aNil)) (eVar 13)))) (sRt (eC (.bl false))) sNx)
  (sSq (sIf (tNt (tTru (eAsk2 5 m_law_asked (eF 3 F_stairs_times (aCons (eVar 3) (aCons (eVar 9) (aCons (eVar 8) aNil)))) (eVar 13)))) (sRt (eC (.bl false))) sNx)
  (sSq (sIf (tOo (tNt (tTru (eAsk2 5 m_law_asked (eFM 2 1 [0, 1, 2] F_stairs_over (aCons (eVar 3) (aCons (eVar 8) aNil)) (aCons (eVar 4) aNil)) (eVar 14)))) (tNt (tTru (eF 4 F_law_brackets_right (aCons (eVar 3) (aCons (eVar 8) (aCons (eVar 9) (aCons (eVar 10) aNil)))))))) (sRt (eC (.bl false))) sNx)
  (sSq (sFor (tgN 5) [5, 15, 16, 20, 21, 22, 23] (iRg1 (eC (.int 3))) (sSq (sSet 15 (eF 3 F_law_monomial (aCons (eVar 1) (aCons (eVar 3) (aCons (eC (.int 6)) aNil)))))
  (sSq (sSet 16 (eA bTup (aCons (eLc [22, 23] (tg2 22 23) (iZp (eVar 15) (eVar 4)) tTrue (e2 dAdd (eVar 22) (eVar 23))) aNil)))
  (sSq (sPr [20, 21] (aCons (eF 2 F_law_stands_under (aCons (eVar 8) (aCons (eVar 15) aNil))) (aCons (eF 2 F_law_stands_under (aCons (eVar 9) (aCons (eVar 15) aNil))) aNil)))
  (sIf (tOo (tBo (e2 dNe (eF 2 F_law_stands_under (aCons (eVar 12) (aCons (eVar 15) aNil))) (eOr (eVar 20) (eVar 21)))) (tOo (tBo (e2 dNe (eF 2 F_law_stands_under (aCons (eVar 11) (aCons (eVar 15) aNil))) (eAnd (eVar 20) (eVar 21)))) (tBo (e2 dNe (eF 2 F_law_stands_under (aCons (eVar 14) (aCons (eVar 15) aNil))) (eF 2 F_law_stands_under (aCons (eVar 8) (aCons (eVar 16) aNil))))))) (sRt (eC (.bl false))) sNx)))))
  (sSq (sTg (tg2 17 18) (eTup (aCons (eF 1 F_law_no_letters (aCons (eVar 1) aNil)) (aCons (eF 3 F_law_no_stairs (aCons (eVar 1) (aCons (eVar 3) (aCons (eVar 8) aNil)))) aNil))))
  (sSq (sFor (tgN 6) [6, 19] (iOf (eLst (aCons (eC (.fn "stairs_sum")) (aCons (eC (.fn "stairs_both")) (aCons (eC (.fn "stairs_times")) (aCons (eC (.fn "stairs_over")) aNil)))))) (sSq (sLi 19 (aCons (eF 1 F_law_word (aCons (eCa subx (eL 6 famL (aCons (eVar 17) (aCons (eC .non) (aCons (eC .non) aNil))))) aNil)) aNil))
  (sSq (sApp 19 (eF 1 F_law_word (aCons (eCa subx (eL 6 famL (aCons (eVar 3) (aCons (eVar 18) (aCons (eC .non) aNil))))) aNil)))
  (sFz 19 (sIf (tBo (e2 dNe (eVar 19) (eLst (aCons (eC (.str "number 'letters'")) (aCons (eC (.str "stairs")) aNil))))) (sRt (eC (.bl false))) sNx)))))
  (sSq (sFor (tgN 6) [6] (iOf (eLst (aCons (eC (.fn "stairs_sum")) (aCons (eC (.fn "stairs_both")) (aCons (eC (.fn "stairs_times")) aNil))))) (sIf (tBo (e2 dNe (eF 1 F_law_word (aCons (eCa subx (eL 6 famL (aCons (eVar 3) (aCons (eVar 8) (aCons (eVar 18) aNil))))) aNil)) (eC (.str "stairs")))) (sRt (eC (.bl false))) sNx))
  (sSq (sSet 7 (eF 2 F_law_pick (aCons (eVar 1) (aCons (eLst (aCons (eC .non) (aCons (eC (.int 5)) (aCons (e2 dTim (eLst (aCons (eC (.int 0)) aNil)) (eVar 3)) (aCons (e2 dTm (eTup (aCons (eC (.int 7)) aNil)) (eVar 3)) (aCons (e2 dTm (eTup (aCons (eC (.int 0)) aNil)) (e2 dAdd (eVar 3) (eC (.int 1)))) (aCons (e2 dTm (eTup (aCons (eC (.bl true)) aNil)) (eVar 3)) (aCons (e2 dTm (eTup (aCons (eC (.int (-1))) aNil)) (eVar 3)) aNil)))))))) aNil))))
  (sIf (tBo (e2 dNe (eF 1 F_law_word (aCons (eCa subx (eF 3 F_stairs_over (aCons (eVar 3) (aCons (eVar 8) (aCons (eVar 7) aNil))))) aNil)) (eC (.str "monomial")))) (sRt (eC (.bl false))) sNx))))))))))))))))))
  (sRt (eC (.bl true))))
theorem k_law {cA PA : Addr} (V : Vx P w K mg base T) {gL gQ cQ PQ : Addr} (CC : LamD K mg base T "law" (top 58) gL cA PA "law.<locals>.<lambda>") (LQ : LamD K mg base T "_law_asked" (top 55) gQ cQ PQ "_law_asked.<locals>.<lambda>") (hAsk : ∀ (f : Nat) (wk : W D) (gA : Addr) (A : Around) (outer : List Env) (s : Shared) (H : Hp) (E1 : XK) (g : Gd) (B1 : Hp × Hp), CxK T 12 (cxOf (L2.CX P w) P w K mg base ["work", "due", "told", "bounds", "error"] "_law_asked" (defScope (top 55)) gA (.ref cQ) A outer s H E1) g E1 → WorkC T 10 (cxOf (L2.CX P w) P w K mg base ["work", "due", "told", "bounds", "error"] "_law_asked" (defScope (top 55)) gA (.ref cQ) A outer s H E1) g B1 f wk → DSs (cxOf (L2.CX P w) P w K mg base ["work", "due", "told", "bounds", "error"] "_law_asked" (defScope (top 55)) gA (.ref cQ) A outer s H E1) g B1 E1 (defBody (top 55)) (m_law_asked f wk)) (f_stairs_sum : FnD P w K mg base T 7 "stairs_sum" (top 31) ["letters", "one", "other"] F_stairs_sum) (f_stairs_both : FnD P w K mg base T 7 "stairs_both" (top 32) ["letters", "one", "other"] F_stairs_both) (f_stairs_times : FnD P w K mg base T 7 "stairs_times" (top 33) ["letters", "one", "other"] F_stairs_times) (f_stairs_over : FnD P w K mg base T 6 "stairs_over" (top 34) ["letters", "stairs", "monomial"] F_stairs_over) (f_law_take : FnD P w K mg base T 2 "_law_take" (top 38) ["draw", "amount"] F_law_take) (f_law_pick : FnD P w K mg base T 3 "_law_pick" (top 39) ["draw", "some"] F_law_pick) (f_law_least : FnD P w K mg base T 2 "_law_least" (top 44) ["some"] F_law_least) (f_law_monomial : FnD P w K mg base T 3 "_law_monomial" (top 45) ["draw", "letters", "high"] F_law_monomial) (f_law_drawn : FnD P w K mg base T 4 "_law_drawn" (top 46) ["draw", "letters", "most"] F_law_drawn) (f_law_stands_under : FnD P w K mg base T 2 "_law_stands_under" (top 47) ["some", "monomial"] F_law_stands_under) (f_law_no_letters : FnD P w K mg base T 4 "_law_no_letters" (top 48) ["draw"] F_law_no_letters) (f_law_no_stairs : FnD P w K mg base T 4 "_law_no_stairs" (top 49) ["draw", "letters", "own"] F_law_no_stairs) (f_law_word : FnD P w K mg base T 1 "_law_word" (top 50) ["error"] F_law_word) (f_law_products : FnD P w K mg base T 3 "_law_products" (top 52) ["first", "second"] F_law_products) (f_law_met : FnD P w K mg base T 3 "_law_met" (top 53) ["first", "second"] F_law_met) (f_law_over : FnD P w K mg base T 3 "_law_over" (top 54) ["own", "monomial"] F_law_over) (f_law_brackets_right : FnD P w K mg base T 14 "_law_brackets_right" (top 57) ["letters", "first", "second", "third"] F_law_brackets_right) (CA : Cau K mg base T (top 40) cA PA "law.<locals>.<lambda>" subx) : ∀ (f : Addr) (A : Around) (outer : List Env) (s : Shared) (H : Hp) (E : XK) (g : Gd) (B : Hp × Hp), CxK T 17 (cxOf (L2.CX P w) P w K mg base ["script", "draw", "turn", "letters", "monomial", "lap", "ask", "odd", "first", "second", "third", "shared", "whole", "times", "over", "near", "far", "bad", "none", "words", "here", "there", "power", "more"] "law" (defScope (top 58)) f (.ref cA) A outer s H E) g E → DSs (cxOf (L2.CX P w) P w K mg base ["script", "draw", "turn", "letters", "monomial", "lap", "ask", "odd", "first", "second", "third", "shared", "whole", "times", "over", "near", "far", "bad", "none", "words", "here", "there", "power", "more"] "law" (defScope (top 58)) f (.ref cA) A outer s H E) g B E (defBody (top 58)).tail m_law := by
  intro f A outer s H E g B c
  unfold m_law
  refine dss_cons ?_ ?_
  refine ds_for (kl := [2, 3, 4, 5, 6, 7, 8, 9, 10, 11, 12, 13, 14, 15, 16, 17, 18, 19, 20, 21, 22, 23]) (passes_of rfl) c.calm ?_ (pg_name (i := 2) sc_law.nd rfl (.inl rfl)) (tgN_ok 2) ?_
  refine di_rg1 (by rfl) V.b_range ?_
  refine de_add ?_ ?_
  exact de_int
  refine db_min c V.b_min (by rfl) ?_
  refine da_cons ?_ ?_
  refine db_len V.b_len (by rfl) ?_
  refine da_cons ?_ ?_
  exact de_var (i := 0)
  exact da_nil
  refine da_cons ?_ ?_
  exact de_int
  exact da_nil
  refine dss_cons ?_ ?_
  refine ds_set (i := 3) sc_law.nd ?_
  refine de_add ?_ ?_
  exact de_int
  refine de_call f_law_take c (by decide) (by rfl) ?_
  refine da_cons ?_ ?_
  exact de_var (i := 1)
  refine da_cons ?_ ?_
  exact de_int
  exact da_nil
  refine dss_cons ?_ ?_
  refine ds_tg ?_ (pg_tup (by exact c.calm) (pgs_cons (pg_name (i := 8) sc_law.nd rfl (.inr rfl)) (pgs_cons (pg_name (i := 9) sc_law.nd rfl (.inr rfl)) (pgs_cons (pg_name (i := 10) sc_law.nd rfl (.inl rfl)) pgs_nil)))) (tg3_ok 8 9 10)
  refine de_tup ?_
  refine da_cons ?_ ?_
  refine de_call f_law_drawn c (by decide) (by rfl) ?_
  refine da_cons ?_ ?_
  exact de_var (i := 1)
  refine da_cons ?_ ?_
  exact de_var (i := 3)
  refine da_cons ?_ ?_
  exact de_int
  exact da_nil
  refine da_cons ?_ ?_
  refine de_call f_law_drawn c (by decide) (by rfl) ?_
  refine da_cons ?_ ?_
  exact de_var (i := 1)
  refine da_cons ?_ ?_
  exact de_var (i := 3)
  refine da_cons ?_ ?_
  exact de_int
  exact da_nil
  refine da_cons ?_ ?_
  refine de_call f_law_drawn c (by decide) (by rfl) ?_
  refine da_cons ?_ ?_
  exact de_var (i := 1)
  refine da_cons ?_ ?_
  exact de_var (i := 3)
  refine da_cons ?_ ?_
  exact de_int
  exact da_nil
  exact da_nil
  refine dss_cons ?_ ?_
  refine ds_set (i := 4) sc_law.nd ?_
  refine de_call f_law_monomial c (by decide) (by rfl) ?_
  refine da_cons ?_ ?_
  exact de_var (i := 1)
  refine da_cons ?_ ?_
  exact de_var (i := 3)
  refine da_cons ?_ ?_
  refine de_call f_law_pick c (by decide) (by rfl) ?_
  refine da_cons ?_ ?_
  exact de_var (i := 1)
  refine da_cons ?_ ?_
  refine de_lst ?_
  refine da_cons ?_ ?_
  exact de_int
  refine da_cons ?_ ?_
  exact de_int
  exact da_nil
  exact da_nil
  exact da_nil
  refine dss_cons ?_ ?_
  refine ds_tg ?_ (pg_tup (by exact c.calm) (pgs_cons (pg_name (i := 11) sc_law.nd rfl (.inl rfl)) (pgs_cons (pg_name (i := 12) sc_law.nd rfl (.inl rfl)) (pgs_cons (pg_name (i := 13) sc_law.nd rfl (.inl rfl)) (pgs_cons (pg_name (i := 14) sc_law.nd rfl (.inl rfl)) pgs_nil))))) (tg4_ok 11 12 13 14)
  refine de_tup ?_
  refine da_cons ?_ ?_
  refine de_call f_law_met c (by decide) (by rfl) ?_
  refine da_cons ?_ ?_
  exact de_var (i := 8)
  refine da_cons ?_ ?_
  exact de_var (i := 9)
  exact da_nil
  refine da_cons ?_ ?_
  refine de_call f_law_least c (by decide) (by rfl) ?_
  refine da_cons ?_ ?_
  refine de_add ?_ ?_
  exact de_var (i := 8)
  exact de_var (i := 9)
  exact da_nil
  refine da_cons ?_ ?_
  refine de_call f_law_products c (by decide) (by rfl) ?_
  refine da_cons ?_ ?_
  exact de_var (i := 8)
  refine da_cons ?_ ?_
  exact de_var (i := 9)
  exact da_nil
  refine da_cons ?_ ?_
  refine de_call f_law_over c (by decide) (by rfl) ?_
  refine da_cons ?_ ?_
  exact de_var (i := 8)
  refine da_cons ?_ ?_
  exact de_var (i := 4)
  exact da_nil
  exact da_nil
  refine dss_cons ?_ ?_
  refine ds_if ?_ ?_ ?_
  refine dt_not ?_
  refine dt_tru ?_
  refine de_asked (j := 9) (c.mono (by decide)) (by rfl) LQ (fun _ _ _ _ _ _ us hl => match us, hl with | [_, _], _ => rfl) sc_law_asked CC (by rfl) (show LamX.LamS (defScope (top 58)) _ from LamX.lamS_by (by decide +kernel)) rfl (fun _ _ _ _ _ => rfl) (fun f wk A outer s H E1 B1 c1 w1 => hAsk f wk _ A outer s H E1 _ B1 c1 w1) ?_ ?_
  intro A outer s H E2 f c2 B2 cl
  refine de_callKM (ks := ["other"]) (js := [0, 1, 2]) (m := 2) f_stairs_sum cl (by decide) (by rfl) ?_ ?_ (fun _ _ _ _ _ _ ws zs h1 h2 => match ws, zs, h1, h2 with | [_, _], [_], _, _ => rfl)
  refine da_cons ?_ ?_
  exact de_var (i := 3)
  refine da_cons ?_ ?_
  exact de_var (i := 8)
  exact da_nil
  refine dk_cons ?_ ?_
  exact de_var (i := 9)
  exact dk_nil
  intro B2
  have c3 := c
  exact de_var (i := 12)
  refine dss_one ?_
  refine ds_rt ?_
  exact de_bl
  exact dss_nil
  refine dss_cons ?_ ?_
  refine ds_if ?_ ?_ ?_
  refine dt_not ?_
  refine dt_tru ?_
  refine de_asked (j := 9) (c.mono (by decide)) (by rfl) LQ (fun _ _ _ _ _ _ us hl => match us, hl with | [_, _], _ => rfl) sc_law_asked CC (by rfl) (show LamX.LamS (defScope (top 58)) _ from LamX.lamS_by (by decide +kernel)) rfl (fun _ _ _ _ _ => rfl) (fun f wk A outer s H E1 B1 c1 w1 => hAsk f wk _ A outer s H E1 _ B1 c1 w1) ?_ ?_
  intro A outer s H E2 f c2 B2 cl
  refine de_call f_stairs_sum cl (by decide) (by rfl) ?_
  refine da_cons ?_ ?_
  exact de_var (i := 3)
  refine da_cons ?_ ?_
  exact de_var (i := 9)
  refine da_cons ?_ ?_
  exact de_var (i := 8)
  exact da_nil
  intro B2
  have c3 := c
  exact de_var (i := 12)
  refine dss_one ?_
  refine ds_rt ?_
  exact de_bl
  exact dss_nil
  refine dss_cons ?_ ?_
  refine ds_if ?_ ?_ ?_
  refine dt_not ?_
  refine dt_tru ?_
  refine de_asked (j := 9) (c.mono (by decide)) (by rfl) LQ (fun _ _ _ _ _ _ us hl => match us, hl with | [_, _], _ => rfl) sc_law_asked CC (by rfl) (show LamX.LamS (defScope (top 58)) _ from LamX.lamS_by (by decide +kernel)) rfl (fun _ _ _ _ _ => rfl) (fun f wk A outer s H E1 B1 c1 w1 => hAsk f wk _ A outer s H E1 _ B1 c1 w1) ?_ ?_
  intro A outer s H E2 f c2 B2 cl
  refine de_callKM (ks := ["other"]) (js := [0, 1, 2]) (m := 2) f_stairs_both cl (by decide) (by rfl) ?_ ?_ (fun _ _ _ _ _ _ ws zs h1 h2 => match ws, zs, h1, h2 with | [_, _], [_], _, _ => rfl)
  refine da_cons ?_ ?_
  exact de_var (i := 3)
  refine da_cons ?_ ?_
  exact de_var (i := 8)
  exact da_nil
  refine dk_cons ?_ ?_
  exact de_var (i := 9)
  exact dk_nil
  intro B2
  have c3 := c
  exact de_var (i := 11)
  refine dss_one ?_
  refine ds_rt ?_
  exact de_bl
  exact dss_nil
  refine dss_cons ?_ ?_
  refine ds_if ?_ ?_ ?_
  refine dt_not ?_
  refine dt_tru ?_
  refine de_asked (j := 9) (c.mono (by decide)) (by rfl) LQ (fun _ _ _ _ _ _ us hl => match us, hl with | [_, _], _ => rfl) sc_law_asked CC (by rfl) (show LamX.LamS (defScope (top 58)) _ from LamX.lamS_by (by decide +kernel)) rfl (fun _ _ _ _ _ => rfl) (fun f wk A outer s H E1 B1 c1 w1 => hAsk f wk _ A outer s H E1 _ B1 c1 w1) ?_ ?_
  intro A outer s H E2 f c2 B2 cl
  refine de_call f_stairs_both cl (by decide) (by rfl) ?_
  refine da_cons ?_ ?_
  exact de_var (i := 3)
  refine da_cons ?_ ?_
  exact de_var (i := 9)
  refine da_cons ?_ ?_
  exact de_var (i := 8)
  exact da_nil
  intro B2
  have c3 := c
  exact de_var (i := 11)
  refine dss_one ?_
  refine ds_rt ?_
  exact de_bl
  exact dss_nil
  refine dss_cons ?_ ?_
  refine ds_if ?_ ?_ ?_
  refine dt_not ?_
  refine dt_tru ?_
  refine de_asked (j := 9) (c.mono (by decide)) (by rfl) LQ (fun _ _ _ _ _ _ us hl => match us, hl with | [_, _], _ => rfl) sc_law_asked CC (by rfl) (show LamX.LamS (defScope (top 58)) _ from LamX.lamS_by (by decide +kernel)) rfl (fun _ _ _ _ _ => rfl) (fun f wk A outer s H E1 B1 c1 w1 => hAsk f wk _ A outer s H E1 _ B1 c1 w1) ?_ ?_
  intro A outer s H E2 f c2 B2 cl
  refine de_callKM (ks := ["other"]) (js := [0, 1, 2]) (m := 2) f_stairs_times cl (by decide) (by rfl) ?_ ?_ (fun _ _ _ _ _ _ ws zs h1 h2 => match ws, zs, h1, h2 with | [_, _], [_], _, _ => rfl)
  refine da_cons ?_ ?_
  exact de_var (i := 3)
  refine da_cons ?_ ?_
  exact de_var (i := 8)
  exact da_nil
  refine dk_cons ?_ ?_
  exact de_var (i := 9)
  exact dk_nil
  intro B2
  have c3 := c
  exact de_var (i := 13)
  refine dss_one ?_
  refine ds_rt ?_
  exact de_bl
  exact dss_nil
  refine dss_cons ?_ ?_
  refine ds_if ?_ ?_ ?_
  refine dt_not ?_
  refine dt_tru ?_
  refine de_asked (j := 9) (c.mono (by decide)) (by rfl) LQ (fun _ _ _ _ _ _ us hl => match us, hl with | [_, _], _ => rfl) sc_law_asked CC (by rfl) (show LamX.LamS (defScope (top 58)) _ from LamX.lamS_by (by decide +kernel)) rfl (fun _ _ _ _ _ => rfl) (fun f wk A outer s H E1 B1 c1 w1 => hAsk f wk _ A outer s H E1 _ B1 c1 w1) ?_ ?_
  intro A outer s H E2 f c2 B2 cl
  refine de_call f_stairs_times cl (by decide) (by rfl) ?_
  refine da_cons ?_ ?_
  exact de_var (i := 3)
  refine da_cons ?_ ?_
  exact de_var (i := 9)
  refine da_cons ?_ ?_
  exact de_var (i := 8)
  exact da_nil
  intro B2
  have c3 := c
  exact de_var (i := 13)
  refine dss_one ?_
  refine ds_rt ?_
  exact de_bl
  exact dss_nil
  refine dss_cons ?_ ?_
  refine ds_if ?_ ?_ ?_
  refine dw_t ?_
  refine dw_or ?_ ?_
  refine dt_not ?_
  refine dt_tru ?_
  refine de_asked (j := 9) (c.mono (by decide)) (by rfl) LQ (fun _ _ _ _ _ _ us hl => match us, hl with | [_, _], _ => rfl) sc_law_asked CC (by rfl) (show LamX.LamS (defScope (top 58)) _ from LamX.lamS_by (by decide +kernel)) rfl (fun _ _ _ _ _ => rfl) (fun f wk A outer s H E1 B1 c1 w1 => hAsk f wk _ A outer s H E1 _ B1 c1 w1) ?_ ?_
  intro A outer s H E2 f c2 B2 cl
  refine de_callKM (ks := ["monomial"]) (js := [0, 1, 2]) (m := 2) f_stairs_over cl (by decide) (by rfl) ?_ ?_ (fun _ _ _ _ _ _ ws zs h1 h2 => match ws, zs, h1, h2 with | [_, _], [_], _, _ => rfl)
  refine da_cons ?_ ?_
  exact de_var (i := 3)
  refine da_cons ?_ ?_
  exact de_var (i := 8)
  exact da_nil
  refine dk_cons ?_ ?_
  exact de_var (i := 4)
  exact dk_nil
  intro B2
  have c3 := c
  exact de_var (i := 14)
  refine dw_or1 ?_
  refine dt_not ?_
  refine dt_tru ?_
  refine de_call f_law_brackets_right c (by decide) (by rfl) ?_
  refine da_cons ?_ ?_
  exact de_var (i := 3)
  refine da_cons ?_ ?_
  exact de_var (i := 8)
  refine da_cons ?_ ?_
  exact de_var (i := 9)
  refine da_cons ?_ ?_
  exact de_var (i := 10)
  exact da_nil
  refine dss_one ?_
  refine ds_rt ?_
  exact de_bl
  exact dss_nil
  refine dss_cons ?_ ?_
  refine ds_for (kl := [5, 15, 16, 20, 21, 22, 23]) (passes_of rfl) c.calm ?_ (pg_name (i := 5) sc_law.nd rfl (.inl rfl)) (tgN_ok 5) ?_
  refine di_rg1 (by rfl) V.b_range ?_
  exact de_int
  refine dss_cons ?_ ?_
  refine ds_set (i := 15) sc_law.nd ?_
  refine de_call f_law_monomial c (by decide) (by rfl) ?_
  refine da_cons ?_ ?_
  exact de_var (i := 1)
  refine da_cons ?_ ?_
  exact de_var (i := 3)
  refine da_cons ?_ ?_
  exact de_int
  exact da_nil
  refine dss_cons ?_ ?_
  refine ds_set (i := 16) sc_law.nd ?_
  refine db_tuple V.b_tuple (by rfl) ?_
  refine da_cons ?_ ?_
  refine de_lc c.calm sc_law.nd ?_ (blkOk_by (N := ["script", "draw", "turn", "letters", "monomial", "lap", "ask", "odd", "first", "second", "third", "shared", "whole", "times", "over", "near", "far", "bad", "none", "words", "here", "there", "power", "more"]) (sc := (defScope (top 58))) (own := [("power", 22), ("more", 23)]) (by decide +kernel)) (fun _ _ _ _ _ => (pg_tup (by exact c.calm) (pgs_cons (pg_name (i := 22) sc_law.nd rfl (.inl rfl)) (pgs_cons (pg_name (i := 23) sc_law.nd rfl (.inl rfl)) pgs_nil)))) (tg2_ok 22 23) (by decide) (fun _ _ _ _ _ _ => ?_) (fun _ _ _ _ _ _ => ?_)
  refine di_zp (by rfl) V.b_zip ?_ ?_
  exact de_var (i := 15)
  exact de_var (i := 4)
  exact dts_nil
  refine de_add ?_ ?_
  exact de_var (i := 22)
  exact de_var (i := 23)
  exact da_nil
  refine dss_cons ?_ ?_
  refine ds_p2 (i := 20) (j := 21) c.calm sc_law.nd ?_
  refine da_cons ?_ ?_
  refine de_call f_law_stands_under c (by decide) (by rfl) ?_
  refine da_cons ?_ ?_
  exact de_var (i := 8)
  refine da_cons ?_ ?_
  exact de_var (i := 15)
  exact da_nil
  refine da_cons ?_ ?_
  refine de_call f_law_stands_under c (by decide) (by rfl) ?_
  refine da_cons ?_ ?_
  exact de_var (i := 9)
  refine da_cons ?_ ?_
  exact de_var (i := 15)
  exact da_nil
  exact da_nil
  refine dss_one ?_
  refine ds_if ?_ ?_ ?_
  refine dw_t ?_
  refine dw_or ?_ ?_
  refine dt_ne c ?_ ?_
  refine de_call f_law_stands_under c (by decide) (by rfl) ?_
  refine da_cons ?_ ?_
  exact de_var (i := 12)
  refine da_cons ?_ ?_
  exact de_var (i := 15)
  exact da_nil
  refine de_or ?_ ?_
  exact de_var (i := 20)
  refine de_one ?_
  exact de_var (i := 21)
  refine dw_or ?_ ?_
  refine dt_ne c ?_ ?_
  refine de_call f_law_stands_under c (by decide) (by rfl) ?_
  refine da_cons ?_ ?_
  exact de_var (i := 11)
  refine da_cons ?_ ?_
  exact de_var (i := 15)
  exact da_nil
  refine de_and ?_ ?_
  exact de_var (i := 20)
  refine de_one ?_
  exact de_var (i := 21)
  refine dw_or1 ?_
  refine dt_ne c ?_ ?_
  refine de_call f_law_stands_under c (by decide) (by rfl) ?_
  refine da_cons ?_ ?_
  exact de_var (i := 14)
  refine da_cons ?_ ?_
  exact de_var (i := 15)
  exact da_nil
  refine de_call f_law_stands_under c (by decide) (by rfl) ?_
  refine da_cons ?_ ?_
  exact de_var (i := 8)
  refine da_cons ?_ ?_
  exact de_var (i := 16)
  exact da_nil
  refine dss_one ?_
  refine ds_rt ?_
  exact de_bl
  exact dss_nil
  refine dss_cons ?_ ?_
  refine ds_tg ?_ (pg_tup (by exact c.calm) (pgs_cons (pg_name (i := 17) sc_law.nd rfl (.inr rfl)) (pgs_cons (pg_name (i := 18) sc_law.nd rfl (.inr rfl)) pgs_nil))) (tg2_ok 17 18)
  refine de_tup ?_
  refine da_cons ?_ ?_
  refine de_call f_law_no_letters c (by decide) (by rfl) ?_
  refine da_cons ?_ ?_
  exact de_var (i := 1)
  exact da_nil
  refine da_cons ?_ ?_
  refine de_call f_law_no_stairs c (by decide) (by rfl) ?_
  refine da_cons ?_ ?_
  exact de_var (i := 1)
  refine da_cons ?_ ?_
  exact de_var (i := 3)
  refine da_cons ?_ ?_
  exact de_var (i := 8)
  exact da_nil
  exact da_nil
  refine dss_cons ?_ ?_
  refine ds_for (kl := [6, 19]) (passes_of rfl) c.calm ?_ (pg_name (i := 6) sc_law.nd rfl (.inr rfl)) (tgN_ok 6) ?_
  refine di_of ?_
  refine de_lst ?_
  refine da_cons ?_ ?_
  exact dv_fn V.d_stairs_sum (by rfl)
  refine da_cons ?_ ?_
  exact dv_fn V.d_stairs_both (by rfl)
  refine da_cons ?_ ?_
  exact dv_fn V.d_stairs_times (by rfl)
  refine da_cons ?_ ?_
  exact dv_fn V.d_stairs_over (by rfl)
  exact da_nil
  refine dss_cons ?_ ?_
  refine ds_li (i := 19) sc_law.nd ?_
  refine da_cons ?_ ?_
  refine de_call f_law_word c (by decide) (by rfl) ?_
  refine da_cons ?_ ?_
  refine de_cau CA c (by rfl) (by rfl) (show LamX.LamS (defScope (top 58)) _ from LamX.lamS_by (by decide +kernel)) rfl (fun _ _ _ _ _ => rfl) ?_
  intro A outer s H E2 f c2 B2 cl
  refine de_callL (i := 6) (Fm := famL) (famL_ok (by decide) f_stairs_sum f_stairs_both f_stairs_times f_stairs_over) cl ?_
  refine da_cons ?_ ?_
  exact de_var (i := 17)
  refine da_cons ?_ ?_
  exact de_non
  refine da_cons ?_ ?_
  exact de_non
  exact da_nil
  exact da_nil
  exact da_nil
  refine dss_cons ?_ ?_
  refine ds_app (i := 19) ?_ (hp := fun h1 h2 => pe_bm PySem.F.plainAttrs_list PySem.F.slot_list_append PySem.F.type_list_append mt_append h1 h2)
  refine de_call f_law_word c (by decide) (by rfl) ?_
  refine da_cons ?_ ?_
  refine de_cau CA c (by rfl) (by rfl) (show LamX.LamS (defScope (top 58)) _ from LamX.lamS_by (by decide +kernel)) rfl (fun _ _ _ _ _ => rfl) ?_
  intro A outer s H E2 f c2 B2 cl
  refine de_callL (i := 6) (Fm := famL) (famL_ok (by decide) f_stairs_sum f_stairs_both f_stairs_times f_stairs_over) cl ?_
  refine da_cons ?_ ?_
  exact de_var (i := 3)
  refine da_cons ?_ ?_
  exact de_var (i := 18)
  refine da_cons ?_ ?_
  exact de_non
  exact da_nil
  exact da_nil
  refine dss_fz (i := 19) ?_
  refine dss_one ?_
  refine ds_if ?_ ?_ ?_
  refine dt_ne c ?_ ?_
  exact de_var (i := 19)
  refine de_lst ?_
  refine da_cons ?_ ?_
  exact de_str
  refine da_cons ?_ ?_
  exact de_str
  exact da_nil
  refine dss_one ?_
  refine ds_rt ?_
  exact de_bl
  exact dss_nil
  refine dss_cons ?_ ?_
  refine ds_for (kl := [6]) (passes_of rfl) c.calm ?_ (pg_name (i := 6) sc_law.nd rfl (.inr rfl)) (tgN_ok 6) ?_
  refine di_of ?_
  refine de_lst ?_
  refine da_cons ?_ ?_
  exact dv_fn V.d_stairs_sum (by rfl)
  refine da_cons ?_ ?_
  exact dv_fn V.d_stairs_both (by rfl)
  refine da_cons ?_ ?_
  exact dv_fn V.d_stairs_times (by rfl)
  exact da_nil
  refine dss_one ?_
  refine ds_if ?_ ?_ ?_
  refine dt_ne c ?_ ?_
  refine de_call f_law_word c (by decide) (by rfl) ?_
  refine da_cons ?_ ?_
  refine de_cau CA c (by rfl) (by rfl) (show LamX.LamS (defScope (top 58)) _ from LamX.lamS_by (by decide +kernel)) rfl (fun _ _ _ _ _ => rfl) ?_
  intro A outer s H E2 f c2 B2 cl
  refine de_callL (i := 6) (Fm := famL) (famL_ok (by decide) f_stairs_sum f_stairs_both f_stairs_times f_stairs_over) cl ?_
  refine da_cons ?_ ?_
  exact de_var (i := 3)
  refine da_cons ?_ ?_
  exact de_var (i := 8)
  refine da_cons ?_ ?_
  exact de_var (i := 18)
  exact da_nil
  exact da_nil
  exact de_str
  refine dss_one ?_
  refine ds_rt ?_
  exact de_bl
  exact dss_nil
  refine dss_cons ?_ ?_
  refine ds_set (i := 7) sc_law.nd ?_
  refine de_call f_law_pick c (by decide) (by rfl) ?_
  refine da_cons ?_ ?_
  exact de_var (i := 1)
  refine da_cons ?_ ?_
  refine de_lst ?_
  refine da_cons ?_ ?_
  exact de_non
  refine da_cons ?_ ?_
  exact de_int
  refine da_cons ?_ ?_
  refine de_tim ?_ ?_
  refine de_lst ?_
  refine da_cons ?_ ?_
  exact de_int
  exact da_nil
  exact de_var (i := 3)
  refine da_cons ?_ ?_
  refine de_tm ?_ ?_
  refine de_tup ?_
  refine da_cons ?_ ?_
  exact de_int
  exact da_nil
  exact de_var (i := 3)
  refine da_cons ?_ ?_
  refine de_tm ?_ ?_
  refine de_tup ?_
  refine da_cons ?_ ?_
  exact de_int
  exact da_nil
  refine de_add ?_ ?_
  exact de_var (i := 3)
  exact de_int
  refine da_cons ?_ ?_
  refine de_tm ?_ ?_
  refine de_tup ?_
  refine da_cons ?_ ?_
  exact de_bl
  exact da_nil
  exact de_var (i := 3)
  refine da_cons ?_ ?_
  refine de_tm ?_ ?_
  refine de_tup ?_
  refine da_cons ?_ ?_
  exact de_neg
  exact da_nil
  exact de_var (i := 3)
  exact da_nil
  exact da_nil
  refine dss_one ?_
  refine ds_if ?_ ?_ ?_
  refine dt_ne c ?_ ?_
  refine de_call f_law_word c (by decide) (by rfl) ?_
  refine da_cons ?_ ?_
  refine de_cau CA c (by rfl) (by rfl) (show LamX.LamS (defScope (top 58)) _ from LamX.lamS_by (by decide +kernel)) rfl (fun _ _ _ _ _ => rfl) ?_
  intro A outer s H E2 f c2 B2 cl
  refine de_call f_stairs_over cl (by decide) (by rfl) ?_
  refine da_cons ?_ ?_
  exact de_var (i := 3)
  refine da_cons ?_ ?_
  exact de_var (i := 8)
  refine da_cons ?_ ?_
  exact de_var (i := 7)
  exact da_nil
  exact da_nil
  exact de_str
  refine dss_one ?_
  refine ds_rt ?_
  exact de_bl
  exact dss_nil
  refine dss_one ?_
  refine ds_rt ?_
  exact de_bl
end
end K62

set_option Elab.async false
set_option linter.all false
set_option maxRecDepth 100000
set_option maxHeartbeats 4000000
namespace K62
open PySem PySem.Spec PyProof.Rows L2 DL
local macro_rules | `(tactic| walk_at "dd") => `(tactic| dsimp only [sSq, sRt, sRn, sDr, sSet, sPr, sTg, sIf, sBk, sCt, sNil, sApp, sFz, sNx, sLi, sPq, sDn, eVar, eC, e1, e2, eIf, aNil, aCons, eA, tNt, tAn, tOo, eAnd, eOr, eNot, eTup, eLst, tBo, eLc, eSl, oNo, oSo, eF, eFM, eCh, tTrue, iOf, iZp, iEn, aStar, sExt, sCat, sCaA, bMaxLs, iRg1, iRg2, tgN, tg2, List.set, List.getElem?_cons_zero, List.getElem?_cons_succ, List.map, List.replicate, List.append, List.cons_append, List.nil_append, fnW, noOwn, blkE, kilE, bTup, bSum, bMin2, bMax2, bLen, bLst, bSrt, bMaxT, List.getD_cons_zero, List.getD_cons_succ])
def mA16 : SM := (sIf (tBo (e2 dNe (eF 1 F_law_word (aCons (eCa subx (eF 3 F_stairs_over (aCons (eVar 3) (aCons (eVar 8) (aCons (eVar 7) aNil))))) aNil)) (eC (.str "monomial")))) (sRt (eC (.bl false))) sNx)
def mA15 : SM := sSq (sSet 7 (eF 2 F_law_pick (aCons (eVar 1) (aCons (eLst (aCons (eC .non) (aCons (eC (.int 5)) (aCons (e2 dTim (eLst (aCons (eC (.int 0)) aNil)) (eVar 3)) (aCons (e2 dTm (eTup (aCons (eC (.int 7)) aNil)) (eVar 3)) (aCons (e2 dTm (eTup (aCons (eC (.int 0)) aNil)) (e2 dAdd (eVar 3) (eC (.int 1)))) (aCons (e2 dTm (eTup (aCons (eC (.bl true)) aNil)) (eVar 3)) (aCons (e2 dTm (eTup (aCons (eC (.int (-1))) aNil)) (eVar 3)) aNil)))))))) aNil)))) mA16
def mA14 : SM := sSq (sFor (tgN 6) [6] (iOf (eLst (aCons (eC (.fn "stairs_sum")) (aCons (eC (.fn "stairs_both")) (aCons (eC (.fn "stairs_times")) aNil))))) (sIf (tBo (e2 dNe (eF 1 F_law_word (aCons (eCa subx (eL 6 famL (aCons (eVar 3) (aCons (eVar 8) (aCons (eVar 18) aNil))))) aNil)) (eC (.str "stairs")))) (sRt (eC (.bl false))) sNx)) mA15
def mA13 : SM := sSq (sFor (tgN 6) [6, 19] (iOf (eLst (aCons (eC (.fn "stairs_sum")) (aCons (eC (.fn "stairs_both")) (aCons (eC (.fn "stairs_times")) (aCons (eC (.fn "stairs_over")) aNil)))))) (sSq (sLi 19 (aCons (eF 1 F_law_word (aCons (eCa subx (eL 6 famL (aCons (eVar 17) (aCons (eC .non) (aCons (eC .non) aNil))))) aNil)) aNil)) (sSq (sApp 19 (eF 1 F_law_word (aCons (eCa subx (eL 6 famL (aCons (eVar 3) (aCons (eVar 18) (aCons (eC .non) aNil))))) aNil))) (sFz 19 (sIf (tBo (e2 dNe (eVar 19) (eLst (aCons (eC (.str "number 'letters'")) (aCons (eC (.str "stairs")) aNil))))) (sRt (eC (.bl false))) sNx))))) mA14
def mA12 : SM := sSq (sTg (tg2 17 18) (eTup (aCons (eF 1 F_law_no_letters (aCons (eVar 1) aNil)) (aCons (eF 3 F_law_no_stairs (aCons (eVar 1) (aCons (eVar 3) (aCons (eVar 8) aNil)))) aNil)))) mA13
def mA11 : SM := sSq (sFor (tgN 5) [5, 15, 16, 20, 21, 22, 23] (iRg1 (eC (.int 3))) (sSq (sSet 15 (eF 3 F_law_monomial (aCons (eVar 1) (aCons (eVar 3) (aCons (eC (.int 6)) aNil))))) (sSq (sSet 16 (eA bTup (aCons (eLc [22, 23] (tg2 22 23) (iZp (eVar 15) (eVar 4)) tTrue (e2 dAdd (eVar 22) (eVar 23))) aNil))) (sSq (sPr [20, 21] (aCons (eF 2 F_law_stands_under (aCons (eVar 8) (aCons (eVar 15) aNil))) (aCons (eF 2 F_law_stands_under (aCons (eVar 9) (aCons (eVar 15) aNil))) aNil))) (sIf (tOo (tBo (e2 dNe (eF 2 F_law_stands_under (aCons (eVar 12) (aCons (eVar 15) aNil))) (eOr (eVar 20) (eVar 21)))) (tOo (tBo (e2 dNe (eF 2 F_law_stands_under (aCons (eVar 11) (aCons (eVar 15) aNil))) (eAnd (eVar 20) (eVar 21)))) (tBo (e2 dNe (eF 2 F_law_stands_under (aCons (eVar 14) (aCons (eVar 15) aNil))) (eF 2 F_law_stands_under (aCons (eVar 8) (aCons (eVar 16) aNil))))))) (sRt (eC (.bl false))) sNx))))) mA12
def mA10 : SM := sSq (sIf (tOo (tNt (tTru (eAsk2 5 m_law_asked (eFM 2 1 [0, 1, 2] F_stairs_over (aCons (eVar 3) (aCons (eVar 8) aNil)) (aCons (eVar 4) aNil)) (eVar 14)))) (tNt (tTru (eF 4 F_law_brackets_right (aCons (eVar 3) (aCons (eVar 8) (aCons (eVar 9) (aCons (eVar 10) aNil)))))))) (sRt (eC (.bl false))) sNx) mA11
def mA9 : SM := sSq (sIf (tNt (tTru (eAsk2 5 m_law_asked (eF 3 F_stairs_times (aCons (eVar 3) (aCons (eVar 9) (aCons (eVar 8) aNil)))) (eVar 13)))) (sRt (eC (.bl false))) sNx) mA10
def mA8 : SM := sSq (sIf (tNt (tTru (eAsk2 5 m_law_asked (eFM 2 1 [0, 1, 2] F_stairs_times (aCons (eVar 3) (aCons (eVar 8) aNil)) (aCons (eVar 9) aNil)) (eVar 13)))) (sRt (eC (.bl false))) sNx) mA9
def mA7 : SM := sSq (sIf (tNt (tTru (eAsk2 5 m_law_asked (eF 3 F_stairs_both (aCons (eVar 3) (aCons (eVar 9) (aCons (eVar 8) aNil)))) (eVar 11)))) (sRt (eC (.bl false))) sNx) mA8
def mA6 : SM := sSq (sIf (tNt (tTru (eAsk2 5 m_law_asked (eFM 2 1 [0, 1, 2] F_stairs_both (aCons (eVar 3) (aCons (eVar 8) aNil)) (aCons (eVar 9) aNil)) (eVar 11)))) (sRt (eC (.bl false))) sNx) mA7
def mA5 : SM := sSq (sIf (tNt (tTru (eAsk2 5 m_law_asked (eF 3 F_stairs_sum (aCons (eVar 3) (aCons (eVar 9) (aCons (eVar 8) aNil)))) (eVar 12)))) (sRt (eC (.bl false))) sNx) mA6
def mA4 : SM := sSq (sIf (tNt (tTru (eAsk2 5 m_law_asked (eFM 2 1 [0, 1, 2] F_stairs_sum (aCons (eVar 3) (aCons (eVar 8) aNil)) (aCons (eVar 9) aNil)) (eVar 12)))) (sRt (eC (.bl false))) sNx) mA5
def mA3 : SM := sSq (sTg (tg4 11 12 13 14) (eTup (aCons (eF 2 F_law_met (aCons (eVar 8) (aCons (eVar 9) aNil))) (aCons (eF 1 F_law_least (aCons (e2 dAdd (eVar 8) (eVar 9)) aNil)) (aCons (eF 2 F_law_products (aCons (eVar 8) (aCons (eVar 9) aNil))) (aCons (eF 2 F_law_over (aCons (eVar 8) (aCons (eVar 4) aNil))) aNil)))))) mA4
def mA2 : SM := sSq (sSet 4 (eF 3 F_law_monomial (aCons (eVar 1) (aCons (eVar 3) (aCons (eF 2 F_law_pick (aCons (eVar 1) (aCons (eLst (aCons (eC (.int 2)) (aCons (eC (.int 6)) aNil))) aNil))) aNil))))) mA3
def mA1 : SM := sSq (sTg (tg3 8 9 10) (eTup (aCons (eF 3 F_law_drawn (aCons (eVar 1) (aCons (eVar 3) (aCons (eC (.int 5)) aNil)))) (aCons (eF 3 F_law_drawn (aCons (eVar 1) (aCons (eVar 3) (aCons (eC (.int 5)) aNil)))) (aCons (eF 3 F_law_drawn (aCons (eVar 1) (aCons (eVar 3) (aCons (eC (.int 3)) aNil)))) aNil))))) mA2
def mA0 : SM := sSq (sSet 3 (e2 dAdd (eC (.int 1)) (eF 2 F_law_take (aCons (eVar 1) (aCons (eC (.int 4)) aNil))))) mA1
theorem m_law_eq : m_law = sSq (sFor (tgN 2) [2, 3, 4, 5, 6, 7, 8, 9, 10, 11, 12, 13, 14, 15, 16, 17, 18, 19, 20, 21, 22, 23] (iRg1 (e2 dAdd (eC (.int 3)) (eA bMin2 (aCons (eA bLen (aCons (eVar 0) aNil)) (aCons (eC (.int 6)) aNil))))) mA0) (sRt (eC (.bl true))) := by
  unfold m_law mA0 mA1 mA2 mA3 mA4 mA5 mA6 mA7 mA8 mA9 mA10 mA11 mA12 mA13 mA14 mA15 mA16
  rfl
end K62

set_option Elab.async false
set_option linter.all false
set_option maxRecDepth 100000
set_option maxHeartbeats 4000000
namespace K62
open PySem PySem.Spec PyProof.Rows L2 DL
local macro_rules | `(tactic| walk_at "dd") => `(tactic| dsimp only [sSq, sRt, sRn, sDr, sSet, sPr, sTg, sIf, sBk, sCt, sNil, sApp, sFz, sNx, sLi, sPq, sDn, eVar, eC, e1, e2, eIf, aNil, aCons, eA, tNt, tAn, tOo, eAnd, eOr, eNot, eTup, eLst, tBo, eLc, eSl, oNo, oSo, eF, eFM, eCh, tTrue, iOf, iZp, iEn, aStar, sExt, sCat, sCaA, bMaxLs, iRg1, iRg2, tgN, tg2, List.set, List.getElem?_cons_zero, List.getElem?_cons_succ, List.map, List.replicate, List.append, List.cons_append, List.nil_append, fnW, noOwn, blkE, kilE, bTup, bSum, bMin2, bMax2, bLen, bLst, bSrt, bMaxT, List.getD_cons_zero, List.getD_cons_succ])
set_option simprocs false
local macro_rules | `(tactic| walk_at "ee") => `(tactic| dsimp only [eCa, noOwn, List.map, List.set, eF, eC, aCons, aNil, eVar, List.getElem?_cons_zero, List.getElem?_cons_succ])
theorem bads_ok {d : D} (h : d ∈ [D.int 0, .int 5, .int (-1), .non, .bl true, .str "2", .tup [.int 2]]) : tyN d ≠ none ∧ good d 1 4 = false := by
  simp only [List.mem_cons, List.not_mem_nil, or_false] at h
  rcases h with rfl | rfl | rfl | rfl | rfl | rfl | rfl
  · exact ⟨nofun, by decide⟩
  · exact ⟨nofun, by decide⟩
  · exact ⟨nofun, by decide⟩
  · exact ⟨nofun, rfl⟩
  · exact ⟨nofun, rfl⟩
  · exact ⟨nofun, rfl⟩
  · exact ⟨nofun, rfl⟩
theorem word_caught {mb : EM} {env : Ev} {P Z : D → Prop} {x : Str} {ns : List Str} {es : List D} (hs : subx x = true) (hw : ∀ Z2 : D → Prop, F_law_word [.exc x ns es] P Z2) (h : ∀ Z2 : D → Prop, Z2 (.exc x ns es) → ∀ P2 : D → Prop, mb (env.map noOwn) P2 Z2) : eF 1 F_law_word (aCons (eCa subx mb) aNil) env P Z := by
  show eCa subx mb env (fun d => [d].length = 1 ∧ F_law_word [d] P Z) Z
  exact eCa_x hs ⟨rfl, hw _⟩ h
theorem sSqApp_i {i : Nat} {l : List D} {M : EM} {r : SM} {env : Ev} {k : KS} (e : env[i]? = some (.own l)) (h : M env (fun d => l.length < 16777216 ∧ r (env.set i (.own (l ++ [d]))) k) k.er) : sSq (sApp i M) r env k := by
  dsimp only [sSq, sApp]
  rw [e]
  exact h
theorem sSqLi1_i {i : Nat} {M : EM} {r : SM} {env : Ev} {k : KS} (h : M env (fun d => 1 ≤ 16777216 ∧ r (env.set i (.own [d])) k) k.er) : sSq (sLi i (aCons M aNil)) r env k := h
theorem word_L {mb : EM} {env : Ev} {P Z : D → Prop} (hp : P (.str "number 'letters'")) (h : ∀ Z2 : D → Prop, Z2 badL → ∀ P2 : D → Prop, mb (env.map noOwn) P2 Z2) : eF 1 F_law_word (aCons (eCa subx mb) aNil) env P Z :=
  word_caught (x := "BadNumber") (ns := ["part"]) (es := [.str "letters"]) (by decide +kernel) (fun Z2 => F_word_L hp) h
theorem word_S {mb : EM} {env : Ev} {P Z : D → Prop} (hp : P (.str "stairs")) (h : ∀ Z2 : D → Prop, Z2 badS → ∀ P2 : D → Prop, mb (env.map noOwn) P2 Z2) : eF 1 F_law_word (aCons (eCa subx mb) aNil) env P Z :=
  word_caught (x := "BadStairs") (ns := []) (es := []) (by decide +kernel) (fun Z2 => F_word_S hp) h
theorem sSqTg_i {T : D → Ev → Option Ev} {a : EM} {r : SM} {env : Ev} {k : KS} (h : a env (fun d => match T d env with
    | some env' => r env' k
    | none => False) k.er) : sSq (sTg T a) r env k := h
theorem dTim_l {l : List D} {j : Int} {P Z : D → Prop} (h1 : 0 ≤ j) (h2 : j < 1000) (h3 : l.length ≤ 1000) (h : P (.lst (List.replicate j.toNat l).flatten)) : dTim (.lst l) (.int j) P Z := by
  refine ⟨⟨by omega, by omega, ?_⟩, h⟩
  have : l.length * j.toNat ≤ 1000 * 1000 := Nat.mul_le_mul h3 (by omega)
  omega

theorem word_B {mb : EM} {env : Ev} {P Z : D → Prop} (hp : P (.str "monomial")) (h : ∀ Z2 : D → Prop, Z2 badM → ∀ P2 : D → Prop, mb (env.map noOwn) P2 Z2) : eF 1 F_law_word (aCons (eCa subx mb) aNil) env P Z :=
  word_caught (x := "BadMonomial") (ns := []) (es := []) (by decide +kernel) (fun Z2 => F_word_B hp) h
def badMon (L : Int) (d : D) : Prop := isPl d ∧ monB L d 6 = false
theorem F_so_bad {L : Int} {O : List (List Int)} {d : D} {P Z : D → Prop} (h1 : 1 ≤ L) (h2 : L ≤ 4) (hO : stB L (rowsD O) = true) (hd : badMon L d) (h : Z badM) : F_stairs_over [.int L, rowsD O, d] P Z := by
  unfold F_stairs_over
  refine lets_i h1 h2 ⟨isPl_rows O, ?_⟩
  rw [hO, if_pos rfl]
  refine ⟨hd.1, ?_⟩
  rw [hd.2, if_neg (by decide)]
  exact h
theorem stage15 {L : Int} {O : List (List Int)} {s0 s2 s4 s5 s6 s7 s9 s10 s11 s12 s13 s14 s15 s16 s17 s18 s19 s20 s21 s22 s23 : Slot} {k : KS} (h1 : 1 ≤ L) (h2 : L ≤ 4) (hO : stB L (rowsD O) = true) (hk : ∀ a2 a3 a4 a5 a6 a7 a8 a9 a10 a11 a12 a13 a14 a15 a16 a17 a18 a19 a20 a21 a22 a23 : Slot, k.nx [s0, .sh .drw, a2, a3, a4, a5, a6, a7, a8, a9, a10, a11, a12, a13, a14, a15, a16, a17, a18, a19, a20, a21, a22, a23]) :
    mA15 [s0, .sh .drw, s2, .sh (.int L), s4, s5, s6, s7, .sh (rowsD O), s9, s10, s11, s12, s13, s14, s15, s16, s17, s18, s19, s20, s21, s22, s23] k := by
  unfold mA15
  refine sSqSet_i ?_
  have hn : 1 ≤ L.toNat := by omega
  have rep : ∀ (n : Nat) (v : D), (List.replicate n [v]).flatten = List.replicate n v := fun n v => flat1 v n
  dsimp only [eF, DL.e2, eLst, eC, eTup, aCons, aNil, eVar, List.getElem?_cons_zero, List.getElem?_cons_succ]
  refine ⟨by show 1 ≤ 16777216; decide, ?_⟩
  refine dTim_l (l := [D.int 0]) (Z := k.er) (by omega) (by omega) (by show 1 ≤ 1000; decide) ?_
  rw [rep]
  refine ⟨by show 1 ≤ 16777216; decide, ?_⟩
  refine dTm_t (l := [D.int 7]) (Z := k.er) (by decide) (by decide) (by omega) (by omega) ?_
  rw [rep]
  refine ⟨by show 1 ≤ 16777216; decide, ?_⟩
  refine dAdd_i (Z := k.er) ?_
  refine dTm_t (l := [D.int 0]) (Z := k.er) (by decide) (by decide) (by omega) (by omega) ?_
  rw [rep]
  refine ⟨by show 1 ≤ 16777216; decide, ?_⟩
  refine dTm_t (l := [D.bl true]) (Z := k.er) (by decide) (by decide) (by omega) (by omega) ?_
  rw [rep]
  refine ⟨by show 1 ≤ 16777216; decide, ?_⟩
  refine dTm_t (l := [D.int (-1)]) (Z := k.er) (by decide) (by decide) (by omega) (by omega) ?_
  rw [rep]
  refine ⟨by show 7 ≤ 16777216; decide, rfl, F_pick_l (by show 0 < 7; decide) (by show 7 < 1000; decide) fun d hd => ?_⟩
  have hb : badMon L d := by
    simp only [List.mem_cons, List.not_mem_nil, or_false] at hd
    rcases hd with rfl | rfl | rfl | rfl | rfl | rfl | rfl
    · exact ⟨rfl, rfl⟩
    · exact ⟨rfl, rfl⟩
    · exact ⟨isPl_lst fun d hd => by rw [List.eq_of_mem_replicate hd]; rfl, rfl⟩
    · exact ⟨isPl_tup fun d hd => by rw [List.eq_of_mem_replicate hd]; rfl, mon_rep hn rfl⟩
    · refine ⟨isPl_tup fun d hd => by rw [List.eq_of_mem_replicate hd]; rfl, ?_⟩
      rw [monB_tup, decide_eq_false (by rw [List.length_replicate]; omega)]
      rfl
    · exact ⟨isPl_tup fun d hd => by rw [List.eq_of_mem_replicate hd]; rfl, mon_rep hn rfl⟩
    · exact ⟨isPl_tup fun d hd => by rw [List.eq_of_mem_replicate hd]; rfl, mon_rep hn rfl⟩
  dsimp only [List.set]
  unfold mA16
  refine sIf_no2 (tBo_no fun P Z hp => ?_) (hk _ _ _ _ _ _ _ _ _ _ _ _ _ _ _ _ _ _ _ _ _ _)
  dsimp only [DL.e2]
  refine word_B ?_ fun Z2 hz P2 => ?_
  · exact dNe_sm (Z := Z) hp
  · walk_at "ee"
    exact ⟨rfl, F_so_bad h1 h2 hO hb hz⟩
theorem bad_two {L : Int} {O : List (List Int)} {non : D} {x : Str} (h1 : 1 ≤ L) (h2 : L ≤ 4) (hO : stB L (rowsD O) = true) (hn : isPl non ∧ stB L non = false) (hx : x = "stairs_sum" ∨ x = "stairs_both" ∨ x = "stairs_times") :
    ∃ F : List D → W D, famL x = some (3, F) ∧ ∀ P Z : D → Prop, Z badS → F [.int L, rowsD O, non] P Z := by
  have two : ∀ (A : Prop) (Z : D → Prop), Z badS → two L (rowsD O) non A Z := fun A Z hz => ⟨isPl_rows O, by
    rw [hO, if_pos rfl]
    refine ⟨hn.1, ?_⟩
    rw [hn.2, if_neg (by decide)]
    exact hz⟩
  rcases hx with rfl | rfl | rfl
  · refine ⟨F_stairs_sum, rfl, fun P Z hz => ?_⟩
    unfold F_stairs_sum
    exact lets_i h1 h2 (two _ _ hz)
  · refine ⟨F_stairs_both, rfl, fun P Z hz => ?_⟩
    unfold F_stairs_both
    exact lets_i h1 h2 (two _ _ hz)
  · refine ⟨F_stairs_times, rfl, fun P Z hz => ?_⟩
    unfold F_stairs_times
    exact lets_i h1 h2 (two _ _ hz)
theorem eL_i {i n : Nat} {Fm : Str → Option (Nat × (List D → W D))} {x : Str} {F : List D → W D} {ml : Ev → W (List D)} {env : Ev} {P Z : D → Prop} (e : env[i]? = some (.sh (.fn x))) (ef : Fm x = some (n, F)) (h : ml env (fun ds => ds.length = n ∧ F ds P Z) Z) : eL i Fm ml env P Z := by
  unfold eL
  rw [e]
  dsimp only
  rw [ef]
  exact h
theorem stage14 {L : Int} {O : List (List Int)} {non : D} {s0 s2 s4 s5 s6 s7 s9 s10 s11 s12 s13 s14 s15 s16 s17 s19 s20 s21 s22 s23 : Slot} {k : KS} (h1 : 1 ≤ L) (h2 : L ≤ 4) (hO : stB L (rowsD O) = true) (hn : isPl non ∧ stB L non = false) (e6 : s6 = .un) (hk : ∀ a2 a3 a4 a5 a6 a7 a8 a9 a10 a11 a12 a13 a14 a15 a16 a17 a18 a19 a20 a21 a22 a23 : Slot, k.nx [s0, .sh .drw, a2, a3, a4, a5, a6, a7, a8, a9, a10, a11, a12, a13, a14, a15, a16, a17, a18, a19, a20, a21, a22, a23]) :
    mA14 [s0, .sh .drw, s2, .sh (.int L), s4, s5, s6, s7, .sh (rowsD O), s9, s10, s11, s12, s13, s14, s15, s16, s17, .sh non, s19, s20, s21, s22, s23] k := by
  subst e6
  unfold mA14
  refine sSqFor_i ?_
  dsimp only [iOf, eLst, eC, aCons, aNil]
  refine ⟨by show 3 ≤ 16777216; decide, ?_⟩
  refine forS_ind (fun ds e => (∀ d ∈ ds, ∃ x : Str, d = .fn x ∧ (x = "stairs_sum" ∨ x = "stairs_both" ∨ x = "stairs_times")) ∧ e = [s0, .sh .drw, s2, .sh (.int L), s4, s5, .un, s7, .sh (rowsD O), s9, s10, s11, s12, s13, s14, s15, s16, s17, .sh non, s19, s20, s21, s22, s23]) (fun e he => ?_) (fun x ds e F he hF => ?_) _ _ ⟨fun d hd => ?_, rfl⟩
  · obtain ⟨_, rfl⟩ := he
    exact stage15 h1 h2 hO hk
  · obtain ⟨hd, rfl⟩ := he
    obtain ⟨y, rfl, hy⟩ := hd x List.mem_cons_self
    obtain ⟨G, ef, hG⟩ := bad_two h1 h2 hO hn hy
    have hF2 := hF _ ⟨fun d h => hd d (List.mem_cons_of_mem _ h), rfl⟩
    dsimp only [tgN, List.set]
    refine sIf_no2 (tBo_no fun P Z hp => ?_) hF2
    dsimp only [DL.e2]
    refine word_S ?_ fun Z2 hz P2 => ?_
    · exact dNe_sm (Z := Z) hp
    · dsimp only [noOwn, List.map]
      refine eL_i rfl ef ?_
      dsimp only [aCons, aNil, eVar, List.getElem?_cons_zero, List.getElem?_cons_succ]
      exact ⟨rfl, hG _ _ hz⟩
  · simp only [List.mem_cons, List.not_mem_nil, or_false] at hd
    rcases hd with rfl | rfl | rfl
    · exact ⟨_, rfl, .inl rfl⟩
    · exact ⟨_, rfl, .inr (.inl rfl)⟩
    · exact ⟨_, rfl, .inr (.inr rfl)⟩
end K62

set_option Elab.async false
set_option linter.all false
set_option maxRecDepth 100000
set_option maxHeartbeats 4000000
namespace K62
open PySem PySem.Spec PyProof.Rows L2 DL
local macro_rules | `(tactic| walk_at "dd") => `(tactic| dsimp only [sSq, sRt, sRn, sDr, sSet, sPr, sTg, sIf, sBk, sCt, sNil, sApp, sFz, sNx, sLi, sPq, sDn, eVar, eC, e1, e2, eIf, aNil, aCons, eA, tNt, tAn, tOo, eAnd, eOr, eNot, eTup, eLst, tBo, eLc, eSl, oNo, oSo, eF, eFM, eCh, tTrue, iOf, iZp, iEn, aStar, sExt, sCat, sCaA, bMaxLs, iRg1, iRg2, tgN, tg2, List.set, List.getElem?_cons_zero, List.getElem?_cons_succ, List.map, List.replicate, List.append, List.cons_append, List.nil_append, fnW, noOwn, blkE, kilE, bTup, bSum, bMin2, bMax2, bLen, bLst, bSrt, bMaxT, List.getD_cons_zero, List.getD_cons_succ])
set_option simprocs false
theorem bad_four {L : Int} {bad non : D} {x : Str} (h1 : 1 ≤ L) (h2 : L ≤ 4) (hb : tyN bad ≠ none ∧ good bad 1 4 = false) (hn : isPl non ∧ stB L non = false) (hx : x = "stairs_sum" ∨ x = "stairs_both" ∨ x = "stairs_times" ∨ x = "stairs_over") :
    ∃ F : List D → W D, famL x = some (3, F) ∧ (∀ P Z : D → Prop, Z badL → F [bad, .non, .non] P Z) ∧ ∀ P Z : D → Prop, Z badS → F [.int L, non, .non] P Z := by
  have two : ∀ (A : Prop) (Z : D → Prop), Z badS → two L non .non A Z := fun A Z hz => ⟨hn.1, by
    rw [hn.2, if_neg (by decide)]
    exact hz⟩
  rcases hx with rfl | rfl | rfl | rfl
  · refine ⟨F_stairs_sum, rfl, fun P Z hz => ?_, fun P Z hz => ?_⟩
    · unfold F_stairs_sum
      exact lets_bad hb.1 hb.2 hz
    · unfold F_stairs_sum
      exact lets_i h1 h2 (two _ _ hz)
  · refine ⟨F_stairs_both, rfl, fun P Z hz => ?_, fun P Z hz => ?_⟩
    · unfold F_stairs_both
      exact lets_bad hb.1 hb.2 hz
    · unfold F_stairs_both
      exact lets_i h1 h2 (two _ _ hz)
  · refine ⟨F_stairs_times, rfl, fun P Z hz => ?_, fun P Z hz => ?_⟩
    · unfold F_stairs_times
      exact lets_bad hb.1 hb.2 hz
    · unfold F_stairs_times
      exact lets_i h1 h2 (two _ _ hz)
  · refine ⟨F_stairs_over, rfl, fun P Z hz => ?_, fun P Z hz => ?_⟩
    · unfold F_stairs_over
      exact lets_bad hb.1 hb.2 hz
    · unfold F_stairs_over
      refine lets_i h1 h2 ⟨hn.1, ?_⟩
      rw [hn.2, if_neg (by decide)]
      exact hz
theorem words_eq {P Z : D → Prop} (h : P (.bl false)) : dNe (.lst [.str "number 'letters'", .str "stairs"]) (.lst [.str "number 'letters'", .str "stairs"]) P Z := by
  have e : PyData.eqv (.list [.str "number 'letters'", .str "stairs"]) (.list [.str "number 'letters'", .str "stairs"]) = true := by decide +kernel
  have s : SeqAt.shaped (.list [.str "number 'letters'", .str "stairs"]) = true := by decide +kernel
  show ((SeqAt.shaped _ = true ∧ SeqAt.shaped _ = true) ∧ P (.bl (!PyData.eqv (.list [.str "number 'letters'", .str "stairs"]) (.list [.str "number 'letters'", .str "stairs"]))))
  rw [e]
  exact ⟨⟨s, s⟩, h⟩
theorem stage13 {L : Int} {O : List (List Int)} {bad non : D} {s0 s2 s4 s5 s6 s7 s9 s10 s11 s12 s13 s14 s15 s16 s19 s20 s21 s22 s23 : Slot} {k : KS} (h1 : 1 ≤ L) (h2 : L ≤ 4) (hO : stB L (rowsD O) = true) (hb : tyN bad ≠ none ∧ good bad 1 4 = false) (hn : isPl non ∧ stB L non = false) (e6 : s6 = .un) (e19 : s19 = .un) (hk : ∀ a2 a3 a4 a5 a6 a7 a8 a9 a10 a11 a12 a13 a14 a15 a16 a17 a18 a19 a20 a21 a22 a23 : Slot, k.nx [s0, .sh .drw, a2, a3, a4, a5, a6, a7, a8, a9, a10, a11, a12, a13, a14, a15, a16, a17, a18, a19, a20, a21, a22, a23]) :
    mA13 [s0, .sh .drw, s2, .sh (.int L), s4, s5, s6, s7, .sh (rowsD O), s9, s10, s11, s12, s13, s14, s15, s16, .sh bad, .sh non, s19, s20, s21, s22, s23] k := by
  subst e6 e19
  unfold mA13
  refine sSqFor_i ?_
  dsimp only [iOf, eLst, eC, aCons, aNil]
  refine ⟨by show 4 ≤ 16777216; decide, ?_⟩
  refine forS_ind (fun ds e => (∀ d ∈ ds, ∃ x : Str, d = .fn x ∧ (x = "stairs_sum" ∨ x = "stairs_both" ∨ x = "stairs_times" ∨ x = "stairs_over")) ∧ e = [s0, .sh .drw, s2, .sh (.int L), s4, s5, .un, s7, .sh (rowsD O), s9, s10, s11, s12, s13, s14, s15, s16, .sh bad, .sh non, .un, s20, s21, s22, s23]) (fun e he => ?_) (fun x ds e F he hF => ?_) _ _ ⟨fun d hd => ?_, rfl⟩
  · obtain ⟨_, rfl⟩ := he
    exact stage14 h1 h2 hO hn rfl hk
  · obtain ⟨hd, rfl⟩ := he
    obtain ⟨y, rfl, hy⟩ := hd x List.mem_cons_self
    obtain ⟨G, ef, hG1, hG2⟩ := bad_four h1 h2 hb hn hy
    have hF2 := hF _ ⟨fun d h => hd d (List.mem_cons_of_mem _ h), rfl⟩
    dsimp only [tgN, List.set]
    refine sSqLi1_i (word_L ?_ fun Z2 hz P2 => ?_)
    · refine ⟨by decide, ?_⟩
      dsimp only [List.set]
      refine sSqApp_i rfl (word_S ⟨by show 1 < 16777216; decide, ?_⟩ fun Z2 hz P2 => ?_)
      · dsimp only [sFz, List.set, List.getElem?_cons_zero, List.getElem?_cons_succ]
        refine sIf_no2 (tBo_no fun P Z hp => ?_) hF2
        dsimp only [DL.e2, eVar, eLst, eC, aCons, aNil, List.getElem?_cons_zero, List.getElem?_cons_succ]
        refine ⟨by show 2 ≤ 16777216; decide, ?_⟩
        exact words_eq (Z := Z) hp
      · dsimp only [noOwn, List.map]
        refine eL_i rfl ef ?_
        dsimp only [aCons, aNil, eVar, eC, List.getElem?_cons_zero, List.getElem?_cons_succ]
        exact ⟨rfl, hG2 _ _ hz⟩
    · dsimp only [noOwn, List.map]
      refine eL_i rfl ef ?_
      dsimp only [aCons, aNil, eVar, eC, List.getElem?_cons_zero, List.getElem?_cons_succ]
      exact ⟨rfl, hG1 _ _ hz⟩
  · simp only [List.mem_cons, List.not_mem_nil, or_false] at hd
    rcases hd with rfl | rfl | rfl | rfl
    · exact ⟨_, rfl, .inl rfl⟩
    · exact ⟨_, rfl, .inr (.inl rfl)⟩
    · exact ⟨_, rfl, .inr (.inr (.inl rfl))⟩
    · exact ⟨_, rfl, .inr (.inr (.inr rfl))⟩
theorem stage12 {L : Int} {O : List (List Int)} {s0 s2 s4 s5 s6 s7 s9 s10 s11 s12 s13 s14 s15 s16 s17 s18 s19 s20 s21 s22 s23 : Slot} {k : KS} (h1 : 1 ≤ L) (h2 : L ≤ 4) (hO : stB L (rowsD O) = true) (e6 : s6 = .un) (e19 : s19 = .un) (hk : ∀ a2 a3 a4 a5 a6 a7 a8 a9 a10 a11 a12 a13 a14 a15 a16 a17 a18 a19 a20 a21 a22 a23 : Slot, k.nx [s0, .sh .drw, a2, a3, a4, a5, a6, a7, a8, a9, a10, a11, a12, a13, a14, a15, a16, a17, a18, a19, a20, a21, a22, a23]) :
    mA12 [s0, .sh .drw, s2, .sh (.int L), s4, s5, s6, s7, .sh (rowsD O), s9, s10, s11, s12, s13, s14, s15, s16, s17, s18, s19, s20, s21, s22, s23] k := by
  unfold mA12
  refine sSqTg_i ?_
  dsimp only [eTup, eF, aCons, aNil, eVar, List.getElem?_cons_zero, List.getElem?_cons_succ]
  refine ⟨rfl, fun bad hb => ⟨rfl, ⟨h1, h2, hO⟩, fun non hn1 hn2 => ⟨by show 2 ≤ 16777216; decide, ?_⟩⟩⟩
  have hb2 := bads_ok hb
  dsimp only [tg2, List.set]
  exact stage13 h1 h2 hO hb2 ⟨hn1, hn2⟩ e6 e19 hk
theorem F_sun {O : List (List Int)} {m : List Int} {P Z : D → Prop} (hO : okR O) (hl : O.length ≤ 1000) (h : P (.bl (undr O m))) : F_law_stands_under [rowsD O, rowD m] P Z := by
  unfold F_law_stands_under
  dsimp only
  rw [rowsOf_D, itOf_row]
  exact ⟨⟨hO, hl⟩, h⟩
/-- what stands in the law's frame -/
structure Hs (L : Int) (A B : List (List Int)) (x : List Int) : Prop where
  h1 : 1 ≤ L
  h2 : L ≤ 4
  nA : nn L.toNat A
  nB : nn L.toNat B
  lA : A.length ≤ 5
  lB : B.length ≤ 5
  hx : (x.length : Int) = L ∧ ∀ a ∈ x, 0 ≤ a ∧ a ≤ 6
theorem stage11 {L : Int} {A B C : List (List Int)} {x : List Int} {s0 s2 s5 s6 s7 s13 s15 s16 s17 s18 s19 s20 s21 s22 s23 : Slot} {k : KS} (H : Hs L A B x) (hO : stB L (rowsD A) = true) (e5 : s5 = .un) (e6 : s6 = .un) (e15 : s15 = .un) (e16 : s16 = .un) (e19 : s19 = .un) (e20 : s20 = .un) (e21 : s21 = .un) (e22 : s22 = .un) (e23 : s23 = .un) (hk : ∀ a2 a3 a4 a5 a6 a7 a8 a9 a10 a11 a12 a13 a14 a15 a16 a17 a18 a19 a20 a21 a22 a23 : Slot, k.nx [s0, .sh .drw, a2, a3, a4, a5, a6, a7, a8, a9, a10, a11, a12, a13, a14, a15, a16, a17, a18, a19, a20, a21, a22, a23]) :
    mA11 [s0, .sh .drw, s2, .sh (.int L), .sh (rowD x), s5, s6, s7, .sh (rowsD A), .sh (rowsD B), .sh (rowsD C), .sh (rowsD (leastS (metL A B))), .sh (rowsD (leastS (A ++ B))), s13, .sh (rowsD (leastS (overL A x))), s15, s16, s17, s18, s19, s20, s21, s22, s23] k := by
  subst e5 e6 e15 e16 e19 e20 e21 e22 e23
  obtain ⟨h1, h2, nA, nB, lA, lB, hx⟩ := H
  have oA := ok_nn h1 h2 nA
  have oB := ok_nn h1 h2 nB
  have xl : x.length = L.toNat := by have := hx.1; omega
  have nM := nn_least (nn_met nA nB)
  have nW := nn_least (nn_app nA nB)
  have nV := nn_least (nn_over nA xl)
  have lM : (leastS (metL A B)).length ≤ 25 := by
    have := least_len (metL A B)
    unfold metL at this ⊢
    rw [List.length_map, prs_len] at this
    have z : A.length * B.length ≤ 5 * 5 := Nat.mul_le_mul lA lB
    omega
  have lW : (leastS (A ++ B)).length ≤ 10 := by
    have := least_len (A ++ B)
    rw [List.length_append] at this
    omega
  have lV : (leastS (overL A x)).length ≤ 5 := by
    have := least_len (overL A x)
    unfold overL at this ⊢
    rw [List.length_map] at this
    omega
  unfold mA11
  refine sSqFor_i ?_
  dsimp only [iRg1, eC]
  refine ⟨⟨by decide, by decide⟩, ?_⟩
  refine forS_ind (fun ds e => e = [s0, .sh .drw, s2, .sh (.int L), .sh (rowD x), .un, .un, s7, .sh (rowsD A), .sh (rowsD B), .sh (rowsD C), .sh (rowsD (leastS (metL A B))), .sh (rowsD (leastS (A ++ B))), s13, .sh (rowsD (leastS (overL A x))), .un, .un, s17, s18, .un, .un, .un, .un, .un]) (fun e he => ?_) (fun y ds e F he hF => ?_) _ _ rfl
  · subst he
    exact stage12 h1 h2 hO rfl rfl hk
  · subst he
    have hF2 := hF _ rfl
    dsimp only [tgN, List.set]
    refine sSqSet_i ?_
    dsimp only [eF, eC, aCons, aNil, eVar, List.getElem?_cons_zero, List.getElem?_cons_succ]
    refine ⟨rfl, F_lmon (by omega) (by omega) (by decide) (by decide) fun m m1 m2 => ?_⟩
    dsimp only [List.set]
    refine sSqSet_i ?_
    dsimp only [eA, eLc, iZp, aCons, aNil, eVar, List.getElem?_cons_zero, List.getElem?_cons_succ]
    show (List.zipWith (fun x y => D.tup [x, y]) (m.map D.int) (x.map D.int)).length < 16777216 ∧ lcE _ _ _ _ (List.zipWith (fun x y => D.tup [x, y]) (m.map D.int) (x.map D.int)) _ _
    rw [zipD_rows]
    refine ⟨by rw [List.length_map]; have := zlen m x; omega, ?_⟩
    refine lcE_mapL _ (fun q => D.int (q.1 + q.2)) _ _ (fun q _ => ⟨_, rfl, fun Q hq => ?_⟩) ?_
    · dsimp only [DL.e2, eVar, tg2, blkE, kilE, noOwn, List.map, List.set, List.getElem?_cons_zero, List.getElem?_cons_succ]
      exact dAdd_i (Z := fun _ => False) hq
    have er : (List.zip m x).map (fun q => D.int (q.1 + q.2)) = (prodR m x).map D.int := by
      unfold prodR
      rw [List.zip_eq_zipWith, List.map_zipWith, List.map_zipWith]
    rw [er]
    refine bTup_l (Z := _) ?_
    dsimp only [List.set]
    dsimp only [sSq, sPr, eF, aCons, aNil, eVar, List.getElem?_cons_zero, List.getElem?_cons_succ]
    refine ⟨rfl, F_sun oA (by omega) ⟨rfl, F_sun oB (by omega) ?_⟩⟩
    dsimp only [List.set]
    have ml : m.length = L.toNat := by omega
    have u1 : undr (leastS (A ++ B)) m = (undr A m || undr B m) := by
      rw [Bool.eq_iff_iff, Bool.or_eq_true, u_least (nn_app nA nB), u_app]
    have u2 : undr (leastS (metL A B)) m = (undr A m && undr B m) := by
      rw [Bool.eq_iff_iff, Bool.and_eq_true, u_least (nn_met nA nB), u_met nA nB ml]
    have u3 : undr (leastS (overL A x)) m = undr A (prodR m x) := by
      rw [Bool.eq_iff_iff, u_least (nn_over nA xl), u_over nA xl ml fun a ha => (m2 a ha).1]
    refine sIf_no2 (tOo_no (tBo_no fun P Z hp => ?_) (tOo_no (tBo_no fun P Z hp => ?_) (tBo_no fun P Z hp => ?_))) hF2
    · dsimp only [DL.e2, eF, eOr, aCons, aNil, eVar, List.getElem?_cons_zero, List.getElem?_cons_succ]
      refine ⟨rfl, F_sun (ok_nn h1 h2 nW) (by omega) ?_⟩
      rw [u1]
      dsimp only [tru]
      cases undr A m with
      | true =>
        rw [if_pos rfl]
        exact dNe_bb (Z := Z) hp
      | false =>
        rw [if_neg (by decide)]
        refine dNe_bb (Z := Z) ?_
        cases undr B m <;> exact hp
    · dsimp only [DL.e2, eF, eAnd, aCons, aNil, eVar, List.getElem?_cons_zero, List.getElem?_cons_succ]
      refine ⟨rfl, F_sun (ok_nn h1 h2 nM) (by omega) ?_⟩
      rw [u2]
      dsimp only [tru]
      cases undr A m with
      | true =>
        rw [if_pos rfl]
        refine dNe_bb (Z := Z) ?_
        cases undr B m <;> exact hp
      | false =>
        rw [if_neg (by decide)]
        exact dNe_bb (Z := Z) hp
    · dsimp only [DL.e2, eF, aCons, aNil, eVar, List.getElem?_cons_zero, List.getElem?_cons_succ]
      refine ⟨rfl, F_sun (ok_nn h1 h2 nV) (by omega) ⟨rfl, F_sun oA (by omega) ?_⟩⟩
      rw [u3]
      refine dNe_bb (Z := Z) ?_
      cases undr A (prodR m x) <;> exact hp
end K62

set_option Elab.async false
set_option linter.all false
set_option maxRecDepth 100000
set_option maxHeartbeats 4000000
namespace K62
open PySem PySem.Spec PyProof.Rows L2 DL
local macro_rules | `(tactic| walk_at "dd") => `(tactic| dsimp only [sSq, sRt, sRn, sDr, sSet, sPr, sTg, sIf, sBk, sCt, sNil, sApp, sFz, sNx, sLi, sPq, sDn, eVar, eC, e1, e2, eIf, aNil, aCons, eA, tNt, tAn, tOo, eAnd, eOr, eNot, eTup, eLst, tBo, eLc, eSl, oNo, oSo, eF, eFM, eCh, tTrue, iOf, iZp, iEn, aStar, sExt, sCat, sCaA, bMaxLs, iRg1, iRg2, tgN, tg2, List.set, List.getElem?_cons_zero, List.getElem?_cons_succ, List.map, List.replicate, List.append, List.cons_append, List.nil_append, fnW, noOwn, blkE, kilE, bTup, bSum, bMin2, bMax2, bLen, bLst, bSrt, bMaxT, List.getD_cons_zero, List.getD_cons_succ])
set_option simprocs false
local macro_rules | `(tactic| walk_at "ff") => `(tactic| dsimp only [eF, eFM, DL.e2, eC, aCons, aNil, eVar, noOwn, List.map, List.getElem?_cons_zero, List.getElem?_cons_succ])
structure Hz (L : Int) (A B C : List (List Int)) : Prop where
  sA : stB L (rowsD A) = true
  sB : stB L (rowsD B) = true
  sC : stB L (rowsD C) = true
  lC : C.length ≤ 3
theorem stage4 {L : Int} {A B C : List (List Int)} {x : List Int} {s0 s2 s5 s6 s7 s15 s16 s17 s18 s19 s20 s21 s22 s23 : Slot} {k : KS} (H : Hs L A B x) (G : Hz L A B C) (e5 : s5 = .un) (e6 : s6 = .un) (e15 : s15 = .un) (e16 : s16 = .un) (e19 : s19 = .un) (e20 : s20 = .un) (e21 : s21 = .un) (e22 : s22 = .un) (e23 : s23 = .un) (hk : ∀ a2 a3 a4 a5 a6 a7 a8 a9 a10 a11 a12 a13 a14 a15 a16 a17 a18 a19 a20 a21 a22 a23 : Slot, k.nx [s0, .sh .drw, a2, a3, a4, a5, a6, a7, a8, a9, a10, a11, a12, a13, a14, a15, a16, a17, a18, a19, a20, a21, a22, a23]) :
    mA4 [s0, .sh .drw, s2, .sh (.int L), .sh (rowD x), s5, s6, s7, .sh (rowsD A), .sh (rowsD B), .sh (rowsD C), .sh (rowsD (leastS (metL A B))), .sh (rowsD (leastS (A ++ B))), .sh (rowsD (leastS (prodL A B))), .sh (rowsD (leastS (overL A x))), s15, s16, s17, s18, s19, s20, s21, s22, s23] k := by
  have H' := H
  obtain ⟨h1, h2, nA, nB, lA, lB, hx⟩ := H
  obtain ⟨sA, sB, sC, lC⟩ := G
  have xl : x.length = L.toNat := by have := hx.1; omega
  have lAB : A.length * B.length ≤ 5 * 5 := Nat.mul_le_mul lA lB
  have lBA : B.length * A.length ≤ 5 * 5 := Nat.mul_le_mul lB lA
  have nM := nn_least (nn_met nA nB)
  have nW := nn_least (nn_app nA nB)
  have nT := nn_least (nn_prod nA nB)
  have nV := nn_least (nn_over nA xl)
  have lM : (leastS (metL A B)).length ≤ 25 := by
    have := least_len (metL A B)
    unfold metL at this ⊢
    rw [List.length_map, prs_len] at this
    omega
  have lT : (leastS (prodL A B)).length ≤ 25 := by
    have := least_len (prodL A B)
    unfold prodL at this ⊢
    rw [List.length_map, prs_len] at this
    omega
  have lW : (leastS (A ++ B)).length ≤ 10 := by
    have := least_len (A ++ B)
    rw [List.length_append] at this
    omega
  have lV : (leastS (overL A x)).length ≤ 5 := by
    have := least_len (overL A x)
    unfold overL at this ⊢
    rw [List.length_map] at this
    omega
  unfold mA4
  refine sSqIf_no (tNt_no fun P Z hp => ask_i h1 h2 nW (by omega) (fun R hR => hR) (fun P' Z' hm => ?_) hp) ?_
  · walk_at "ff"
    exact ⟨⟨rfl, rfl⟩, F_ss h1 h2 sA sB hm⟩
  unfold mA5
  refine sSqIf_no (tNt_no fun P Z hp => ask_i h1 h2 nW (by omega) (fun R hR => hR) (fun P' Z' hm => ?_) hp) ?_
  · walk_at "ff"
    rw [I7] at hm
    exact ⟨rfl, F_ss h1 h2 sB sA hm⟩
  unfold mA6
  refine sSqIf_no (tNt_no fun P Z hp => ask_i h1 h2 nM (by omega) (fun R hR => hR) (fun P' Z' hm => ?_) hp) ?_
  · walk_at "ff"
    exact ⟨⟨rfl, rfl⟩, F_sb h1 h2 sA sB (by omega) hm⟩
  unfold mA7
  refine sSqIf_no (tNt_no fun P Z hp => ask_i h1 h2 nM (by omega) (fun R hR => hR) (fun P' Z' hm => ?_) hp) ?_
  · walk_at "ff"
    rw [I8 nA nB] at hm
    exact ⟨rfl, F_sb h1 h2 sB sA (by omega) hm⟩
  unfold mA8
  refine sSqIf_no (tNt_no fun P Z hp => ask_i h1 h2 nT (by omega) (fun R hR => hR) (fun P' Z' hm => ?_) hp) ?_
  · walk_at "ff"
    exact ⟨⟨rfl, rfl⟩, F_st h1 h2 sA sB (by omega) hm⟩
  unfold mA9
  refine sSqIf_no (tNt_no fun P Z hp => ask_i h1 h2 nT (by omega) (fun R hR => hR) (fun P' Z' hm => ?_) hp) ?_
  · walk_at "ff"
    rw [I9 nA nB] at hm
    exact ⟨rfl, F_st h1 h2 sB sA (by omega) hm⟩
  unfold mA10
  refine sSqIf_no (tOo_no (tNt_no fun P Z hp => ask_i h1 h2 nV (by omega) (fun R hR => hR) (fun P' Z' hm => ?_) hp) (tNt_no fun P Z hp => ?_)) ?_
  · walk_at "ff"
    refine ⟨⟨rfl, rfl⟩, ?_⟩
    show F_stairs_over [.int L, rowsD A, rowD x] P' Z'
    unfold F_stairs_over
    refine lets_i h1 h2 ⟨isPl_rows A, ?_⟩
    rw [sA, if_pos rfl]
    refine ⟨isPl_row x, ?_⟩
    rw [row_monB hx.1 hx.2, if_pos rfl, rowsOf_D, itOf_row]
    exact hm
  · walk_at "ff"
    refine ⟨rfl, ?_⟩
    show F_law_brackets_right [.int L, .tup (A.map rowD), .tup (B.map rowD), .tup (C.map rowD)] P Z
    unfold F_law_brackets_right
    dsimp only
    rw [itsOf_rows, itsOf_rows, itsOf_rows]
    exact ⟨⟨sA, sB, sC, ⟨h1, h2⟩, lA, lB, lC⟩, hp⟩
  exact stage11 H' sA e5 e6 e15 e16 e19 e20 e21 e22 e23 hk
theorem stage1 {L : Int} {s0 s2 s4 s5 s6 s7 s8 s9 s10 s11 s12 s13 s14 s15 s16 s17 s18 s19 s20 s21 s22 s23 : Slot} {k : KS} (h1 : 1 ≤ L) (h2 : L ≤ 4) (e5 : s5 = .un) (e6 : s6 = .un) (e15 : s15 = .un) (e16 : s16 = .un) (e19 : s19 = .un) (e20 : s20 = .un) (e21 : s21 = .un) (e22 : s22 = .un) (e23 : s23 = .un) (hk : ∀ a2 a3 a4 a5 a6 a7 a8 a9 a10 a11 a12 a13 a14 a15 a16 a17 a18 a19 a20 a21 a22 a23 : Slot, k.nx [s0, .sh .drw, a2, a3, a4, a5, a6, a7, a8, a9, a10, a11, a12, a13, a14, a15, a16, a17, a18, a19, a20, a21, a22, a23]) :
    mA1 [s0, .sh .drw, s2, .sh (.int L), s4, s5, s6, s7, s8, s9, s10, s11, s12, s13, s14, s15, s16, s17, s18, s19, s20, s21, s22, s23] k := by
  have gA : ∀ X : List (List Int), stB L (rowsD X) = true → nn L.toNat X := fun X hX => by
    obtain ⟨X2, e, n1, n2, n3, n4⟩ := stB_rows hX
    have eX : X = X2 := by
      unfold rowsD at e
      have z := congrArg itsOf (D.tup.inj e)
      rw [itsOf_rows, itsOf_rows] at z
      exact Option.some.inj z
    subst eX
    exact nn_of h1 n3
  unfold mA1
  refine sSqTg_i ?_
  dsimp only [eTup, eF, eC, aCons, aNil, eVar, List.getElem?_cons_zero, List.getElem?_cons_succ]
  refine ⟨rfl, ⟨⟨h1, h2⟩, by decide, by decide⟩, fun A sA lA => ⟨rfl, ⟨⟨h1, h2⟩, by decide, by decide⟩, fun B sB lB => ⟨rfl, ⟨⟨h1, h2⟩, by decide, by decide⟩, fun C sC lC => ⟨by show 3 ≤ 16777216; decide, ?_⟩⟩⟩⟩
  dsimp only [tg3, List.set]
  unfold mA2
  refine sSqSet_i ?_
  dsimp only [eF, eC, eLst, aCons, aNil, eVar, List.getElem?_cons_zero, List.getElem?_cons_succ]
  refine ⟨by show 2 ≤ 16777216; decide, rfl, F_pick_l (by show 0 < 2; decide) (by show 2 < 1000; decide) fun d hd => ?_⟩
  obtain ⟨hi, rfl, hi1, hi2⟩ : ∃ hi : Int, d = .int hi ∧ 0 ≤ hi ∧ hi ≤ 6 := by
    simp only [List.mem_cons, List.not_mem_nil, or_false] at hd
    rcases hd with rfl | rfl
    · exact ⟨_, rfl, by decide, by decide⟩
    · exact ⟨_, rfl, by decide, by decide⟩
  refine ⟨rfl, F_lmon (by omega) (by omega) hi1 (by omega) fun x x1 x2 => ?_⟩
  dsimp only [List.set]
  have nA := gA A sA
  have nB := gA B sB
  have oA := ok_nn h1 h2 nA
  have oB := ok_nn h1 h2 nB
  have lA' : A.length ≤ 5 := by omega
  have lB' : B.length ≤ 5 := by omega
  have lAB : A.length * B.length ≤ 5 * 5 := Nat.mul_le_mul lA' lB'
  unfold mA3
  refine sSqTg_i ?_
  dsimp only [eTup]
  walk_at "ff"
  refine ⟨rfl, F_lm oA oB (by omega) (by omega) (by omega) ?_⟩
  refine F_la oA oB (by omega) (by omega) ?_
  refine ⟨rfl, F_lp oA oB (by omega) (by omega) (by omega) ?_⟩
  refine ⟨rfl, ?_⟩
  show F_law_over [rowsD A, rowD x] _ _
  unfold F_law_over
  dsimp only
  rw [rowsOf_D, itOf_row]
  refine ⟨⟨oA, by omega, fun z => ?_, by omega⟩, by show 4 ≤ 16777216; decide, ?_⟩
  · rw [z] at x1
    simp at x1
    omega
  dsimp only [tg4, List.set]
  exact stage4 ⟨h1, h2, nA, nB, lA', lB', x1, fun a ha => by have := x2 a ha; omega⟩ ⟨sA, sB, sC, by omega⟩ e5 e6 e15 e16 e19 e20 e21 e22 e23 hk
abbrev e0 (l : List Int) : Ev := [.sh (.scr l), .sh .drw, .un, .un, .un, .un, .un, .un, .un, .un, .un, .un, .un, .un, .un, .un, .un, .un, .un, .un, .un, .un, .un, .un]
theorem kil_all (a0 a1 a2 a3 a4 a5 a6 a7 a8 a9 a10 a11 a12 a13 a14 a15 a16 a17 a18 a19 a20 a21 a22 a23 : Slot) : kilE [2, 3, 4, 5, 6, 7, 8, 9, 10, 11, 12, 13, 14, 15, 16, 17, 18, 19, 20, 21, 22, 23] [a0, a1, a2, a3, a4, a5, a6, a7, a8, a9, a10, a11, a12, a13, a14, a15, a16, a17, a18, a19, a20, a21, a22, a23] = [a0, a1, .un, .un, .un, .un, .un, .un, .un, .un, .un, .un, .un, .un, .un, .un, .un, .un, .un, .un, .un, .un, .un, .un] := by
  dsimp only [kilE, List.set]
theorem i_law (l : List Int) (hl : l.length ≤ 63) : m_law (e0 l) { nx := fun _ => False, rt := fun d => d = .bl true } := by
  rw [m_law_eq]
  have it : ∀ (P : List D → Prop) (Z : D → Prop), (∀ n : Nat, P (rgD 0 n)) → iRg1 (DL.e2 dAdd (eC (.int 3)) (eA bMin2 (aCons (eA bLen (aCons (eVar 0) aNil)) (aCons (eC (.int 6)) aNil)))) (e0 l) P Z := fun P Z h => by
    walk_at "dd"
    refine dAdd_i ⟨?_, h _⟩
    split <;> omega
  refine sSqFor_i (it _ _ fun n => ?_)
  refine forS_ind (fun ds e => e = e0 l) (fun e he => ?_) (fun d ds e F he hF => ?_) _ _ rfl
  · subst he
    rfl
  · subst he
    have hF0 : ∀ a2 a3 a4 a5 a6 a7 a8 a9 a10 a11 a12 a13 a14 a15 a16 a17 a18 a19 a20 a21 a22 a23 : Slot, F (kilE [2, 3, 4, 5, 6, 7, 8, 9, 10, 11, 12, 13, 14, 15, 16, 17, 18, 19, 20, 21, 22, 23] [.sh (.scr l), .sh .drw, a2, a3, a4, a5, a6, a7, a8, a9, a10, a11, a12, a13, a14, a15, a16, a17, a18, a19, a20, a21, a22, a23]) := fun _ _ _ _ _ _ _ _ _ _ _ _ _ _ _ _ _ _ _ _ _ _ => hF _ (kil_all _ _ _ _ _ _ _ _ _ _ _ _ _ _ _ _ _ _ _ _ _ _ _ _)
    clear hF
    dsimp only [tgN, List.set]
    unfold mA0
    refine sSqSet_i ?_
    dsimp only [DL.e2, eC, eF, aCons, aNil, eVar, List.getElem?_cons_zero, List.getElem?_cons_succ]
    refine ⟨rfl, F_take_n (by decide) (by decide) fun k k1 k2 => dAdd_i (Z := fun _ => False) ?_⟩
    obtain ⟨L, hL⟩ : ∃ L : Int, L = 1 + k := ⟨_, rfl⟩
    have L1 : 1 ≤ L := by omega
    have L4 : L ≤ 4 := by omega
    rw [← hL]
    clear hL k1 k2
    dsimp only [List.set]
    exact stage1 L1 L4 rfl rfl rfl rfl rfl rfl rfl rfl rfl hF0
end K62

set_option Elab.async false
set_option linter.all false
set_option maxRecDepth 100000
set_option maxHeartbeats 0
namespace K62
open PySem PySem.Spec PyProof.Rows L2 DL
abbrev R : PySem.W.OpenLaw := PySem.Challenge.rw_lotsclosed_k62_whole_sums_of_stairs
def fileS : Str := (R.prog.main.file : Str)
def fx : List Fx := [.fa (.glo "is_number"),
  .fa (.keep "is_number"),
  .fa (.code ("is_number", none) "is_number"),
  .fa (.glo "is_between"),
  .fa (.keep "is_between"),
  .fa (.code ("is_between", none) "is_between"),
  .fa (.glo "is_tuple"),
  .fa (.keep "is_tuple"),
  .fa (.code ("is_tuple", none) "is_tuple"),
  .fa (.glo "need_between"),
  .fa (.keep "need_between"),
  .fa (.code ("need_between", none) "need_between"),
  .fa (.glo "need_few"),
  .fa (.keep "need_few"),
  .fa (.code ("need_few", none) "need_few"),
  .fa (.glo "need_letters"),
  .fa (.keep "need_letters"),
  .fa (.code ("need_letters", none) "need_letters"),
  .fa (.glo "is_monomial"),
  .fa (.keep "is_monomial"),
  .fa (.code ("is_monomial", none) "is_monomial"),
  .fa (.glo "need_monomial"),
  .fa (.keep "need_monomial"),
  .fa (.code ("need_monomial", none) "need_monomial"),
  .fa (.glo "divides"),
  .fa (.keep "divides"),
  .fa (.code ("divides", none) "divides"),
  .fa (.glo "multiple_of"),
  .fa (.keep "multiple_of"),
  .fa (.code ("multiple_of", none) "multiple_of"),
  .fa (.glo "least_of"),
  .fa (.keep "least_of"),
  .fa (.code ("least_of", none) "least_of"),
  .fa (.glo "is_stairs_told"),
  .fa (.keep "is_stairs_told"),
  .fa (.code ("is_stairs_told", none) "is_stairs_told"),
  .fa (.glo "need_stairs"),
  .fa (.keep "need_stairs"),
  .fa (.code ("need_stairs", none) "need_stairs"),
  .fa (.glo "made_stairs"),
  .fa (.keep "made_stairs"),
  .fa (.code ("made_stairs", none) "made_stairs"),
  .fa (.glo "need_two"),
  .fa (.keep "need_two"),
  .fa (.code ("need_two", none) "need_two"),
  .fa (.glo "pairs_of"),
  .fa (.keep "pairs_of"),
  .fa (.code ("pairs_of", none) "pairs_of"),
  .fa (.glo "met_monomials"),
  .fa (.keep "met_monomials"),
  .fa (.code ("met_monomials", none) "met_monomials"),
  .fa (.glo "stairs_sum"),
  .fa (.keep "stairs_sum"),
  .fa (.code ("stairs_sum", none) "stairs_sum"),
  .fa (.glo "stairs_both"),
  .fa (.keep "stairs_both"),
  .fa (.code ("stairs_both", none) "stairs_both"),
  .fa (.glo "stairs_times"),
  .fa (.keep "stairs_times"),
  .fa (.code ("stairs_times", none) "stairs_times"),
  .fa (.glo "stairs_over"),
  .fa (.keep "stairs_over"),
  .fa (.code ("stairs_over", none) "stairs_over"),
  .fa (.glo "_law_begun"),
  .fa (.keep "_law_begun"),
  .fa (.code ("_law_begun", none) "_law_begun"),
  .fa (.glo "_law_mixed"),
  .fa (.keep "_law_mixed"),
  .fa (.code ("_law_mixed", none) "_law_mixed"),
  .fa (.glo "_law_take"),
  .fa (.keep "_law_take"),
  .fa (.code ("_law_take", none) "_law_take"),
  .fa (.glo "_law_pick"),
  .fa (.keep "_law_pick"),
  .fa (.code ("_law_pick", none) "_law_pick"),
  .fa (.glo "_law_caught"),
  .fa (.keep "_law_caught"),
  .fa (.code ("_law_caught", none) "_law_caught"),
  .fa (.glo "_law_says"),
  .fa (.keep "_law_says"),
  .fa (.code ("_law_says", none) "_law_says"),
  .fa (.glo "_law_divides"),
  .fa (.keep "_law_divides"),
  .fa (.code ("_law_divides", none) "_law_divides"),
  .fa (.glo "_law_common"),
  .fa (.keep "_law_common"),
  .fa (.code ("_law_common", none) "_law_common"),
  .fa (.glo "_law_least"),
  .fa (.keep "_law_least"),
  .fa (.code ("_law_least", none) "_law_least"),
  .fa (.glo "_law_monomial"),
  .fa (.keep "_law_monomial"),
  .fa (.code ("_law_monomial", none) "_law_monomial"),
  .fa (.glo "_law_drawn"),
  .fa (.keep "_law_drawn"),
  .fa (.code ("_law_drawn", none) "_law_drawn"),
  .fa (.glo "_law_stands_under"),
  .fa (.keep "_law_stands_under"),
  .fa (.code ("_law_stands_under", none) "_law_stands_under"),
  .fa (.glo "_law_no_letters"),
  .fa (.keep "_law_no_letters"),
  .fa (.code ("_law_no_letters", none) "_law_no_letters"),
  .fa (.glo "_law_no_stairs"),
  .fa (.keep "_law_no_stairs"),
  .fa (.code ("_law_no_stairs", none) "_law_no_stairs"),
  .fa (.glo "_law_word"),
  .fa (.keep "_law_word"),
  .fa (.code ("_law_word", none) "_law_word"),
  .fa (.glo "_law_bounds"),
  .fa (.keep "_law_bounds"),
  .fa (.code ("_law_bounds", none) "_law_bounds"),
  .fa (.glo "_law_products"),
  .fa (.keep "_law_products"),
  .fa (.code ("_law_products", none) "_law_products"),
  .fa (.glo "_law_met"),
  .fa (.keep "_law_met"),
  .fa (.code ("_law_met", none) "_law_met"),
  .fa (.glo "_law_over"),
  .fa (.keep "_law_over"),
  .fa (.code ("_law_over", none) "_law_over"),
  .fa (.glo "_law_asked"),
  .fa (.keep "_law_asked"),
  .fa (.code ("_law_asked", none) "_law_asked"),
  .fa (.glo "_law_is_told"),
  .fa (.keep "_law_is_told"),
  .fa (.code ("_law_is_told", none) "_law_is_told"),
  .fa (.glo "_law_brackets_right"),
  .fa (.keep "_law_brackets_right"),
  .fa (.code ("_law_brackets_right", none) "_law_brackets_right"),
  .fa (.glo "law"),
  .fa (.keep "law"),
  .fa (.code ("law", none) "law"),
  .fa (.free "abs"),
  .fa (.free "all"),
  .fa (.free "any"),
  .fa (.free "bool"),
  .fa (.free "int"),
  .fa (.free "isinstance"),
  .fa (.free "len"),
  .fa (.free "list"),
  .fa (.free "max"),
  .fa (.free "min"),
  .fa (.free "range"),
  .fa (.free "repr"),
  .fa (.free "set"),
  .fa (.free "sorted"),
  .fa (.free "super"),
  .fa (.free "tuple"),
  .fa (.free "zip"),
  .fa (.int "MOST_LETTERS" v_MOST_LETTERS),
  .fa (.int "MOST_POWER" v_MOST_POWER),
  .fa (.int "MOST_STAIRS" v_MOST_STAIRS),
  .fa (.glo "LotError"),
  .fa (.glo "BadNumber"),
  .fa (.glo "BadMonomial"),
  .fa (.glo "BadStairs"),
  .fa (.glo "BadParts"),
  .fa (.glo "BadTop"),
  .fa (.glo "TooMany"),
  .sup fileS "BadNumber" "part" "part",
  .sup fileS "TooMany" "most" "most",
  .xck "BadNumber",
  .xck "TooMany",
  .xck "BadMonomial",
  .xck "BadStairs",
  .nof "BadNumber" "part",
  .nof "TooMany" "most",
  .exm "BadNumber" "LotError" true,
  .exm "TooMany" "LotError" true,
  .exm "BadMonomial" "LotError" true,
  .exm "BadStairs" "LotError" true,
  .kie "BadNumber" "BadNumber" true,
  .kie "BadNumber" "TooMany" false,
  .kie "BadNumber" "BadMonomial" false,
  .kie "BadNumber" "BadStairs" false,
  .kie "BadNumber" "BadParts" false,
  .kie "BadNumber" "BadTop" false,
  .kie "TooMany" "BadNumber" false,
  .kie "TooMany" "TooMany" true,
  .kie "TooMany" "BadMonomial" false,
  .kie "TooMany" "BadStairs" false,
  .kie "TooMany" "BadParts" false,
  .kie "TooMany" "BadTop" false,
  .kie "BadMonomial" "BadNumber" false,
  .kie "BadMonomial" "TooMany" false,
  .kie "BadMonomial" "BadMonomial" true,
  .kie "BadMonomial" "BadStairs" false,
  .kie "BadMonomial" "BadParts" false,
  .kie "BadMonomial" "BadTop" false,
  .kie "BadStairs" "BadNumber" false,
  .kie "BadStairs" "TooMany" false,
  .kie "BadStairs" "BadMonomial" false,
  .kie "BadStairs" "BadStairs" true,
  .kie "BadStairs" "BadParts" false,
  .kie "BadStairs" "BadTop" false,
  .fa (.exc "BadMonomial"),
  .fa (.exc "BadStairs"),
  .tne "law" "_law_asked",
  .tne "law" "_law_brackets_right",
  .tne "_law_asked" "_law_brackets_right"]
def fn : List He.FnD := [defFn "is_number" (top 9), defFn "is_between" (top 10), defFn "is_tuple" (top 11), defFn "need_between" (top 12), defFn "need_few" (top 13), defFn "need_letters" (top 18), defFn "is_monomial" (top 19), defFn "need_monomial" (top 20), defFn "divides" (top 21), defFn "multiple_of" (top 22), defFn "least_of" (top 23), defFn "is_stairs_told" (top 24), defFn "need_stairs" (top 25), defFn "made_stairs" (top 26), defFn "need_two" (top 28), defFn "pairs_of" (top 29), defFn "met_monomials" (top 30), defFn "stairs_sum" (top 31), defFn "stairs_both" (top 32), defFn "stairs_times" (top 33), defFn "stairs_over" (top 34), defFn "_law_begun" (top 36), defFn "_law_mixed" (top 37), defFn "_law_take" (top 38), defFn "_law_pick" (top 39), defFn "_law_caught" (top 40), defFn "_law_says" (top 41), defFn "_law_divides" (top 42), defFn "_law_common" (top 43), defFn "_law_least" (top 44), defFn "_law_monomial" (top 45), defFn "_law_drawn" (top 46), defFn "_law_stands_under" (top 47), defFn "_law_no_letters" (top 48), defFn "_law_no_stairs" (top 49), defFn "_law_word" (top 50), defFn "_law_bounds" (top 51), defFn "_law_products" (top 52), defFn "_law_met" (top 53), defFn "_law_over" (top 54), defFn "_law_asked" (top 55), defFn "_law_is_told" (top 56), defFn "_law_brackets_right" (top 57), defFn "law" (top 58)]
def tf : List He.Defn := [("law", none), ("_law_asked", none), ("_law_brackets_right", none)]
def loose0 : List Str := ["is_number", "is_between", "is_tuple", "need_between", "need_few", "need_letters", "is_monomial", "need_monomial", "divides", "multiple_of", "least_of", "is_stairs_told", "need_stairs", "made_stairs", "need_two", "pairs_of", "met_monomials", "stairs_sum", "stairs_both", "stairs_times", "stairs_over", "_law_begun", "_law_mixed", "_law_take", "_law_pick", "_law_caught", "_law_says", "_law_divides", "_law_common", "_law_least"]
def loose1 : List Str := ["_law_monomial", "_law_drawn", "_law_stands_under", "_law_no_letters", "_law_no_stairs", "_law_word", "_law_bounds", "_law_products", "_law_met", "_law_over", "_law_asked", "_law_is_told", "_law_brackets_right", "LotError", "BadNumber", "BadMonomial", "BadStairs", "BadParts", "BadTop", "TooMany", "MOST_LETTERS", "MOST_POWER", "MOST_STAIRS"]
def loose : List Str := loose0 ++ loose1
def ob (s : PySem.W.SharedT) : AlL := obsL 5 fx fn tf (HandSHeadRun.getT s)
theorem ob_eq (s : PySem.W.SharedT) : ob s = (hookL 5 fx fn tf).obs s.abs := obsL_eq (HandSHeadRun.getT_eq s)

theorem run (w : World) : HandSHeadRun.RunEqI (PySem.W.OpenLaw.row R) (PySem.W.view R.prog [58]) (hookL 5 fx fn tf) ob 20000 loose w := by
  unfold HandSHeadRun.RunEqI
  kernel_rfl
end K62

set_option Elab.async false
set_option linter.all false
set_option maxRecDepth 100000
set_option maxHeartbeats 4000000
namespace K62
open PySem PySem.Spec PyProof.Rows L2 DL
section
variable {K : PySem.W.Frag} {h : Heap} {mg : Str → Option Value} {w : World} {base : Heap} {T : List (Addr × Str)}
theorem cls_at (X : K.In h) (G : h.Ns mainGlobals mg) (c : SaysL fx fn tf h K) {x : Str} {C : Addr} (i : Nat) (e : fx[i]? = some (.fa (.glo x))) (hm : mg x = some (.ref C)) : C = He.ga K x := by
  have z : (He.Fa.glo x).ok K = true := c.fact i e
  have z2 := He.glo_ok X G z
  rw [hm] at z2
  injection (Option.some.inj z2)
theorem vx (X : K.In h) (G : h.Ns mainGlobals mg) (c : SaysL fx fn tf h K) : Vx R.prog w K mg base T where
  b_abs := He.free_ok X G (c.fact 132 rfl)
  b_all := He.free_ok X G (c.fact 133 rfl)
  b_any := He.free_ok X G (c.fact 134 rfl)
  b_bool := He.free_ok X G (c.fact 135 rfl)
  b_int := He.free_ok X G (c.fact 136 rfl)
  b_isinstance := He.free_ok X G (c.fact 137 rfl)
  b_len := He.free_ok X G (c.fact 138 rfl)
  b_list := He.free_ok X G (c.fact 139 rfl)
  b_max := He.free_ok X G (c.fact 140 rfl)
  b_min := He.free_ok X G (c.fact 141 rfl)
  b_range := He.free_ok X G (c.fact 142 rfl)
  b_repr := He.free_ok X G (c.fact 143 rfl)
  b_set := He.free_ok X G (c.fact 144 rfl)
  b_sorted := He.free_ok X G (c.fact 145 rfl)
  b_tuple := He.free_ok X G (c.fact 147 rfl)
  b_zip := He.free_ok X G (c.fact 148 rfl)
  g_MOST_LETTERS := He.int_ok X G (c.fact 149 rfl)
  g_MOST_POWER := He.int_ok X G (c.fact 150 rfl)
  g_MOST_STAIRS := He.int_ok X G (c.fact 151 rfl)
  c_BadNumber := ⟨_, He.glo_ok X G (c.fact 153 rfl), _, sup_ok (show supB K _ _ _ _ _ = true from c.fact 159 rfl) (He.free_ok X G (c.fact 146 rfl)) (by decide +kernel) ⟨by decide, by decide, by decide⟩ bind_part⟩
  c_TooMany := ⟨_, He.glo_ok X G (c.fact 158 rfl), _, sup_ok (show supB K _ _ _ _ _ = true from c.fact 160 rfl) (He.free_ok X G (c.fact 146 rfl)) (by decide +kernel) ⟨by decide, by decide, by decide⟩ bind_most⟩
  c_BadMonomial := ⟨_, He.glo_ok X G (c.fact 154 rfl), trivial⟩
  c_BadParts := ⟨_, He.glo_ok X G (c.fact 156 rfl), trivial⟩
  c_BadStairs := ⟨_, He.glo_ok X G (c.fact 155 rfl), trivial⟩
  c_BadTop := ⟨_, He.glo_ok X G (c.fact 157 rfl), trivial⟩
  r_BadMonomial := ⟨⟨_, He.glo_ok X G (c.fact 154 rfl), He.exc_ok (show (He.Fa.exc "BadMonomial").ok K = true from c.fact 195 rfl)⟩⟩
  r_BadStairs := ⟨⟨_, He.glo_ok X G (c.fact 155 rfl), He.exc_ok (show (He.Fa.exc "BadStairs").ok K = true from c.fact 196 rfl)⟩⟩
  d_is_number := c.defFF X G 0 0
  d_is_between := c.defFF X G 3 1
  d_is_tuple := c.defFF X G 6 2
  d_need_between := c.defFF X G 9 3
  d_need_few := c.defFF X G 12 4
  d_need_letters := c.defFF X G 15 5
  d_is_monomial := c.defFF X G 18 6
  d_need_monomial := c.defFF X G 21 7
  d_divides := c.defFF X G 24 8
  d_multiple_of := c.defFF X G 27 9
  d_least_of := c.defFF X G 30 10
  d_is_stairs_told := c.defFF X G 33 11
  d_need_stairs := c.defFF X G 36 12
  d_made_stairs := c.defFF X G 39 13
  d_need_two := c.defFF X G 42 14
  d_pairs_of := c.defFF X G 45 15
  d_met_monomials := c.defFF X G 48 16
  d_stairs_sum := c.defFF X G 51 17
  d_stairs_both := c.defFF X G 54 18
  d_stairs_times := c.defFF X G 57 19
  d_stairs_over := c.defFF X G 60 20
  d__law_begun := c.defFF X G 63 21
  d__law_mixed := c.defFF X G 66 22
  d__law_take := c.defFF X G 69 23
  d__law_pick := c.defFF X G 72 24
  d__law_caught := c.defFF X G 75 25
  d__law_says := c.defFF X G 78 26
  d__law_divides := c.defFF X G 81 27
  d__law_common := c.defFF X G 84 28
  d__law_least := c.defFF X G 87 29
  d__law_monomial := c.defFF X G 90 30
  d__law_drawn := c.defFF X G 93 31
  d__law_stands_under := c.defFF X G 96 32
  d__law_no_letters := c.defFF X G 99 33
  d__law_no_stairs := c.defFF X G 102 34
  d__law_word := c.defFF X G 105 35
  d__law_bounds := c.defFF X G 108 36
  d__law_products := c.defFF X G 111 37
  d__law_met := c.defFF X G 114 38
  d__law_over := c.defFF X G 117 39
  d__law_asked := c.defFF X G 120 40
  d__law_is_told := c.defFF X G 123 41
  d__law_brackets_right := c.defFF X G 126 42
  d_law := c.defFF X G 129 43
  ko := fun t x C b e hm => by
    unfold K62.ko at e
    cases e
  ke := fun x y Cx Cc b e h1 h2 => by
    unfold K62.ke at e
    split at e
    · rename_i z
      obtain ⟨z1, z2⟩ := z
      have e0 := Option.some.inj e
      clear e
      simp only [exs, exa, List.mem_cons, List.not_mem_nil, or_false] at z1 z2
      rcases z1 with rfl | rfl | rfl | rfl
      · have e1 := cls_at X G c 153 rfl h1
        subst e1
        refine ⟨xck_ok (c.fact 161 rfl), ?_⟩
        rcases z2 with rfl | rfl | rfl | rfl | rfl | rfl
        · have e2 := cls_at X G c 153 rfl h2
          subst e2
          have eb : b = true := by rw [← e0]; decide
          rw [eb]
          exact of_decide_eq_true (show decide _ = true from c.fact 171 rfl)
        · have e2 := cls_at X G c 158 rfl h2
          subst e2
          have eb : b = false := by rw [← e0]; decide
          rw [eb]
          exact of_decide_eq_true (show decide _ = true from c.fact 172 rfl)
        · have e2 := cls_at X G c 154 rfl h2
          subst e2
          have eb : b = false := by rw [← e0]; decide
          rw [eb]
          exact of_decide_eq_true (show decide _ = true from c.fact 173 rfl)
        · have e2 := cls_at X G c 155 rfl h2
          subst e2
          have eb : b = false := by rw [← e0]; decide
          rw [eb]
          exact of_decide_eq_true (show decide _ = true from c.fact 174 rfl)
        · have e2 := cls_at X G c 156 rfl h2
          subst e2
          have eb : b = false := by rw [← e0]; decide
          rw [eb]
          exact of_decide_eq_true (show decide _ = true from c.fact 175 rfl)
        · have e2 := cls_at X G c 157 rfl h2
          subst e2
          have eb : b = false := by rw [← e0]; decide
          rw [eb]
          exact of_decide_eq_true (show decide _ = true from c.fact 176 rfl)
      · have e1 := cls_at X G c 158 rfl h1
        subst e1
        refine ⟨xck_ok (c.fact 162 rfl), ?_⟩
        rcases z2 with rfl | rfl | rfl | rfl | rfl | rfl
        · have e2 := cls_at X G c 153 rfl h2
          subst e2
          have eb : b = false := by rw [← e0]; decide
          rw [eb]
          exact of_decide_eq_true (show decide _ = true from c.fact 177 rfl)
        · have e2 := cls_at X G c 158 rfl h2
          subst e2
          have eb : b = true := by rw [← e0]; decide
          rw [eb]
          exact of_decide_eq_true (show decide _ = true from c.fact 178 rfl)
        · have e2 := cls_at X G c 154 rfl h2
          subst e2
          have eb : b = false := by rw [← e0]; decide
          rw [eb]
          exact of_decide_eq_true (show decide _ = true from c.fact 179 rfl)
        · have e2 := cls_at X G c 155 rfl h2
          subst e2
          have eb : b = false := by rw [← e0]; decide
          rw [eb]
          exact of_decide_eq_true (show decide _ = true from c.fact 180 rfl)
        · have e2 := cls_at X G c 156 rfl h2
          subst e2
          have eb : b = false := by rw [← e0]; decide
          rw [eb]
          exact of_decide_eq_true (show decide _ = true from c.fact 181 rfl)
        · have e2 := cls_at X G c 157 rfl h2
          subst e2
          have eb : b = false := by rw [← e0]; decide
          rw [eb]
          exact of_decide_eq_true (show decide _ = true from c.fact 182 rfl)
      · have e1 := cls_at X G c 154 rfl h1
        subst e1
        refine ⟨xck_ok (c.fact 163 rfl), ?_⟩
        rcases z2 with rfl | rfl | rfl | rfl | rfl | rfl
        · have e2 := cls_at X G c 153 rfl h2
          subst e2
          have eb : b = false := by rw [← e0]; decide
          rw [eb]
          exact of_decide_eq_true (show decide _ = true from c.fact 183 rfl)
        · have e2 := cls_at X G c 158 rfl h2
          subst e2
          have eb : b = false := by rw [← e0]; decide
          rw [eb]
          exact of_decide_eq_true (show decide _ = true from c.fact 184 rfl)
        · have e2 := cls_at X G c 154 rfl h2
          subst e2
          have eb : b = true := by rw [← e0]; decide
          rw [eb]
          exact of_decide_eq_true (show decide _ = true from c.fact 185 rfl)
        · have e2 := cls_at X G c 155 rfl h2
          subst e2
          have eb : b = false := by rw [← e0]; decide
          rw [eb]
          exact of_decide_eq_true (show decide _ = true from c.fact 186 rfl)
        · have e2 := cls_at X G c 156 rfl h2
          subst e2
          have eb : b = false := by rw [← e0]; decide
          rw [eb]
          exact of_decide_eq_true (show decide _ = true from c.fact 187 rfl)
        · have e2 := cls_at X G c 157 rfl h2
          subst e2
          have eb : b = false := by rw [← e0]; decide
          rw [eb]
          exact of_decide_eq_true (show decide _ = true from c.fact 188 rfl)
      · have e1 := cls_at X G c 155 rfl h1
        subst e1
        refine ⟨xck_ok (c.fact 164 rfl), ?_⟩
        rcases z2 with rfl | rfl | rfl | rfl | rfl | rfl
        · have e2 := cls_at X G c 153 rfl h2
          subst e2
          have eb : b = false := by rw [← e0]; decide
          rw [eb]
          exact of_decide_eq_true (show decide _ = true from c.fact 189 rfl)
        · have e2 := cls_at X G c 158 rfl h2
          subst e2
          have eb : b = false := by rw [← e0]; decide
          rw [eb]
          exact of_decide_eq_true (show decide _ = true from c.fact 190 rfl)
        · have e2 := cls_at X G c 154 rfl h2
          subst e2
          have eb : b = false := by rw [← e0]; decide
          rw [eb]
          exact of_decide_eq_true (show decide _ = true from c.fact 191 rfl)
        · have e2 := cls_at X G c 155 rfl h2
          subst e2
          have eb : b = true := by rw [← e0]; decide
          rw [eb]
          exact of_decide_eq_true (show decide _ = true from c.fact 192 rfl)
        · have e2 := cls_at X G c 156 rfl h2
          subst e2
          have eb : b = false := by rw [← e0]; decide
          rw [eb]
          exact of_decide_eq_true (show decide _ = true from c.fact 193 rfl)
        · have e2 := cls_at X G c 157 rfl h2
          subst e2
          have eb : b = false := by rw [← e0]; decide
          rw [eb]
          exact of_decide_eq_true (show decide _ = true from c.fact 194 rfl)
    · cases e
  okx_part := fun x C e hm => by
    have ex : x = "BadNumber" := by
      unfold K62.okx_part at e
      exact eq_of_beq e
    subst ex
    have e1 := cls_at X G c 153 rfl hm
    subst e1
    exact ⟨xck_ok (c.fact 161 rfl), He.eqO_ok (show He.eqO _ _ = true from c.fact 165 rfl)⟩
  okx_most := fun x C e hm => by
    have ex : x = "TooMany" := by
      unfold K62.okx_most at e
      exact eq_of_beq e
    subst ex
    have e1 := cls_at X G c 158 rfl hm
    subst e1
    exact ⟨xck_ok (c.fact 162 rfl), He.eqO_ok (show He.eqO _ _ = true from c.fact 166 rfl)⟩
end
theorem keepBody : KeepBody (top 40) "work" "caught" "LotError" "error" := ⟨⟨_, _, _, _, _, _, _, _, _, _, _, _, _, _, _, rfl⟩, sc_law_caught, rfl, rfl, rfl, rfl, by decide⟩
theorem bgBody : BgBody (top 36) bg_st bg_ex "cell" := ⟨⟨_, _, _, _, _, _, _, _, _, _, _, _, _, _, _, rfl⟩, sc_law_begun, rfl⟩
section
variable {K : PySem.W.Frag} {h : Heap} {mg : Str → Option Value} {w : World}
theorem lawAt (fa : Addr) (X : K.In h) (G : h.Ns mainGlobals mg) (c : SaysL fx fn tf h K) (hmg : mg "law" = some (.ref fa)) : LawG R w K 18 63 "script" mg fa h := by
  obtain ⟨l1A, l2A, ocA, odA, oslA, kVA, docA, pmA, anA, cdvA, ctA, l3A, l4A⟩ := c.defF X G (x := "law") (st := top 58) 129 43
  obtain ⟨cA, rfl⟩ := He.codeIn_ref l4A
  have hcA : He.codeOf K ("law", none) = cA := He.codeOf_eq l3A rfl
  obtain ⟨PA, hPA⟩ : ∃ PA, PA = He.tabOf K cA := ⟨_, rfl⟩
  have hcTA : He.cT K ("law", none) = (cA, PA) := by
    unfold He.cT
    rw [hcA, hPA]
  have m1A : (("law", none) : He.Defn) ∈ tf := (List.mem_cons_self)
  have t1A := c.empty _ m1A
  have t2A := c.out _ m1A
  have t3A := c.hd _ m1A
  rw [hcTA] at t1A t2A t3A
  obtain ⟨l1B, l2B, ocB, odB, oslB, kVB, docB, pmB, anB, cdvB, ctB, l3B, l4B⟩ := c.defF X G (x := "_law_asked") (st := top 55) 120 40
  obtain ⟨cB, rfl⟩ := He.codeIn_ref l4B
  have hcB : He.codeOf K ("_law_asked", none) = cB := He.codeOf_eq l3B rfl
  obtain ⟨PB, hPB⟩ : ∃ PB, PB = He.tabOf K cB := ⟨_, rfl⟩
  have hcTB : He.cT K ("_law_asked", none) = (cB, PB) := by
    unfold He.cT
    rw [hcB, hPB]
  have m1B : (("_law_asked", none) : He.Defn) ∈ tf := (List.mem_cons_of_mem _ List.mem_cons_self)
  have t1B := c.empty _ m1B
  have t2B := c.out _ m1B
  have t3B := c.hd _ m1B
  rw [hcTB] at t1B t2B t3B
  obtain ⟨l1C, l2C, ocC, odC, oslC, kVC, docC, pmC, anC, cdvC, ctC, l3C, l4C⟩ := c.defF X G (x := "_law_brackets_right") (st := top 57) 126 42
  obtain ⟨cC, rfl⟩ := He.codeIn_ref l4C
  have hcC : He.codeOf K ("_law_brackets_right", none) = cC := He.codeOf_eq l3C rfl
  obtain ⟨PC, hPC⟩ : ∃ PC, PC = He.tabOf K cC := ⟨_, rfl⟩
  have hcTC : He.cT K ("_law_brackets_right", none) = (cC, PC) := by
    unfold He.cT
    rw [hcC, hPC]
  have m1C : (("_law_brackets_right", none) : He.Defn) ∈ tf := (List.mem_cons_of_mem _ (List.mem_cons_of_mem _ List.mem_cons_self))
  have t1C := c.empty _ m1C
  have t2C := c.out _ m1C
  have t3C := c.hd _ m1C
  rw [hcTC] at t1C t2C t3C
  have efa : fa = He.ga K "law" := by
    rw [hmg] at l1A
    injection (Option.some.inj l1A)
  have neAB : PA ≠ PB := by
    have z : (He.cT K ("law", none)).2 ≠ (He.cT K ("_law_asked", none)).2 := of_decide_eq_true (show decide _ = true from c.fact 197 rfl)
    rw [hcTA, hcTB] at z
    exact z
  have neAC : PA ≠ PC := by
    have z : (He.cT K ("law", none)).2 ≠ (He.cT K ("_law_brackets_right", none)).2 := of_decide_eq_true (show decide _ = true from c.fact 198 rfl)
    rw [hcTA, hcTC] at z
    exact z
  have neBC : PB ≠ PC := by
    have z : (He.cT K ("_law_asked", none)).2 ≠ (He.cT K ("_law_brackets_right", none)).2 := of_decide_eq_true (show decide _ = true from c.fact 199 rfl)
    rw [hcTB, hcTC] at z
    exact z
  have each : ∀ p ∈ ([(cA, PA), (cB, PB), (cC, PC)] : List (Addr × Addr)), p = (cA, PA) ∨ p = (cB, PB) ∨ p = (cC, PC) := fun p hp => by
    simpa only [List.mem_cons, List.not_mem_nil, or_false] using hp
  refine ⟨PySem.W.fnOf "law" "law" (defArgs (top 58)) (defBody (top 58)) (defScope (top 58)) .none kVA docA pmA anA (.ref cA) ctA, [(cA, PA), (cB, PB), (cC, PC)], spLw K mg [(PA, "law.<locals>.<lambda>"), (PB, "_law_asked.<locals>.<lambda>"), (PC, "_law_brackets_right.<locals>.<lambda>")], fun p hp => ?_, fun p hp => ?_, fun p hp => ?_, fun s u => BindsTo.of_eq rfl, fun a ns known ob hl hb ha hs => ?_, fun base KB GB TB => ?_⟩
  · rcases each p hp with rfl | rfl | rfl
    · exact t1A
    · exact t1B
    · exact t1C
  · rcases each p hp with rfl | rfl | rfl
    · exact t2A
    · exact t2B
    · exact t2C
  · rcases each p hp with rfl | rfl | rfl
    · exact PySem.W.codeHd_of_K X t3A
    · exact PySem.W.codeHd_of_K X t3B
    · exact PySem.W.codeHd_of_K X t3C
  · refine spLw_start (fun p hp => ?_) ha hl hs
    have hp2 : p = ((PA, "law.<locals>.<lambda>") : Addr × Str) ∨ p = ((PB, "_law_asked.<locals>.<lambda>") : Addr × Str) ∨ p = ((PC, "_law_brackets_right.<locals>.<lambda>") : Addr × Str) := by simpa only [List.mem_cons, List.not_mem_nil, or_false] using hp
    rcases hp2 with rfl | rfl | rfl
    · exact (List.mem_cons_self)
    · exact (List.mem_cons_of_mem _ List.mem_cons_self)
    · exact (List.mem_cons_of_mem _ (List.mem_cons_of_mem _ List.mem_cons_self))
  · have V : Vx R.prog w K mg base [(PA, "law.<locals>.<lambda>"), (PB, "_law_asked.<locals>.<lambda>"), (PC, "_law_brackets_right.<locals>.<lambda>")] := vx X G c
    have eachT : ∀ p ∈ ([(PA, "law.<locals>.<lambda>"), (PB, "_law_asked.<locals>.<lambda>"), (PC, "_law_brackets_right.<locals>.<lambda>")] : List (Addr × Str)), p = ((PA, "law.<locals>.<lambda>") : Addr × Str) ∨ p = ((PB, "_law_asked.<locals>.<lambda>") : Addr × Str) ∨ p = ((PC, "_law_brackets_right.<locals>.<lambda>") : Addr × Str) := fun p hp => by
      simpa only [List.mem_cons, List.not_mem_nil, or_false] using hp
    have uqA : ∀ p ∈ ([(PA, "law.<locals>.<lambda>"), (PB, "_law_asked.<locals>.<lambda>"), (PC, "_law_brackets_right.<locals>.<lambda>")] : List (Addr × Str)), p.1 = PA → p.2 = "law.<locals>.<lambda>" := fun p hp e => by
      rcases eachT p hp with rfl | rfl | rfl
      · rfl
      · exact absurd e.symm neAB
      · exact absurd e.symm neAC
    have LA : LamD K mg base [(PA, "law.<locals>.<lambda>"), (PB, "_law_asked.<locals>.<lambda>"), (PC, "_law_brackets_right.<locals>.<lambda>")] "law" (top 58) (He.ga K "law") cA PA "law.<locals>.<lambda>" := ⟨l1A, ⟨ocA, odA, kVA, docA, pmA, anA, ctA, oslA, l3A, l4A⟩, l2A, TB _ (List.mem_cons_self), (List.mem_cons_self), uqA⟩
    have uqB : ∀ p ∈ ([(PA, "law.<locals>.<lambda>"), (PB, "_law_asked.<locals>.<lambda>"), (PC, "_law_brackets_right.<locals>.<lambda>")] : List (Addr × Str)), p.1 = PB → p.2 = "_law_asked.<locals>.<lambda>" := fun p hp e => by
      rcases eachT p hp with rfl | rfl | rfl
      · exact absurd e neAB
      · rfl
      · exact absurd e.symm neBC
    have LB : LamD K mg base [(PA, "law.<locals>.<lambda>"), (PB, "_law_asked.<locals>.<lambda>"), (PC, "_law_brackets_right.<locals>.<lambda>")] "_law_asked" (top 55) (He.ga K "_law_asked") cB PB "_law_asked.<locals>.<lambda>" := ⟨l1B, ⟨ocB, odB, kVB, docB, pmB, anB, ctB, oslB, l3B, l4B⟩, l2B, TB _ (List.mem_cons_of_mem _ List.mem_cons_self), (List.mem_cons_of_mem _ List.mem_cons_self), uqB⟩
    have uqC : ∀ p ∈ ([(PA, "law.<locals>.<lambda>"), (PB, "_law_asked.<locals>.<lambda>"), (PC, "_law_brackets_right.<locals>.<lambda>")] : List (Addr × Str)), p.1 = PC → p.2 = "_law_brackets_right.<locals>.<lambda>" := fun p hp e => by
      rcases eachT p hp with rfl | rfl | rfl
      · exact absurd e neAC
      · exact absurd e neBC
      · rfl
    have LC : LamD K mg base [(PA, "law.<locals>.<lambda>"), (PB, "_law_asked.<locals>.<lambda>"), (PC, "_law_brackets_right.<locals>.<lambda>")] "_law_brackets_right" (top 57) (He.ga K "_law_brackets_right") cC PC "_law_brackets_right.<locals>.<lambda>" := ⟨l1C, ⟨ocC, odC, kVC, docC, pmC, anC, ctC, oslC, l3C, l4C⟩, l2C, TB _ (List.mem_cons_of_mem _ (List.mem_cons_of_mem _ List.mem_cons_self)), (List.mem_cons_of_mem _ (List.mem_cons_of_mem _ List.mem_cons_self)), uqC⟩
    obtain ⟨gb, fdb, hb1, hb2⟩ := V.d__law_begun.ex
    obtain ⟨gc, fdc, hc1, hc2⟩ := V.d__law_caught.ex
    have exC : ∃ (gA CS : Addr) (fd : FuncData), mg "_law_caught" = some (.ref gA) ∧ Fun K "_law_caught" "_law_caught" (top 40) gA fd ∧ Binds K fd ["work"] [] ∧ mg "LotError" = some (.ref CS) ∧ ∀ cx Cx, subx cx = true → mg cx = some (.ref Cx) → PySem.W.exmOne K (.ref Cx) (.ref CS) = some true := by
      refine ⟨gc, He.ga K "LotError", fdc, hc1, hc2, hc2.binds fun _ _ _ _ _ _ us hl => match us, hl with | [_], _ => rfl, He.glo_ok X G (c.fact 152 rfl), fun cx Cx hs hm => ?_⟩
      have z1 : cx ∈ exs := of_decide_eq_true hs
      simp only [exs, List.mem_cons, List.not_mem_nil, or_false] at z1
      rcases z1 with rfl | rfl | rfl | rfl
      · have e1 := cls_at X G c 153 rfl hm
        subst e1
        exact of_decide_eq_true (show decide _ = true from c.fact 167 rfl)
      · have e1 := cls_at X G c 158 rfl hm
        subst e1
        exact of_decide_eq_true (show decide _ = true from c.fact 168 rfl)
      · have e1 := cls_at X G c 154 rfl hm
        subst e1
        exact of_decide_eq_true (show decide _ = true from c.fact 169 rfl)
      · have e1 := cls_at X G c 155 rfl hm
        subst e1
        exact of_decide_eq_true (show decide _ = true from c.fact 170 rfl)
    have CA : Cau K mg base [(PA, "law.<locals>.<lambda>"), (PB, "_law_asked.<locals>.<lambda>"), (PC, "_law_brackets_right.<locals>.<lambda>")] (top 40) cA PA "law.<locals>.<lambda>" subx := ⟨exC, keepBody, TB _ (List.mem_cons_self), (List.mem_cons_self), uqA⟩
    have CB : Cau K mg base [(PA, "law.<locals>.<lambda>"), (PB, "_law_asked.<locals>.<lambda>"), (PC, "_law_brackets_right.<locals>.<lambda>")] (top 40) cB PB "_law_asked.<locals>.<lambda>" subx := ⟨exC, keepBody, TB _ (List.mem_cons_of_mem _ List.mem_cons_self), (List.mem_cons_of_mem _ List.mem_cons_self), uqB⟩
    have CC : Cau K mg base [(PA, "law.<locals>.<lambda>"), (PB, "_law_asked.<locals>.<lambda>"), (PC, "_law_brackets_right.<locals>.<lambda>")] (top 40) cC PC "_law_brackets_right.<locals>.<lambda>" subx := ⟨exC, keepBody, TB _ (List.mem_cons_of_mem _ (List.mem_cons_of_mem _ List.mem_cons_self)), (List.mem_cons_of_mem _ (List.mem_cons_of_mem _ List.mem_cons_self)), uqC⟩
    have f1 := k_is_number V i_is_number
    have f2 := k_is_between V f1 i_is_between
    have f3 := k_is_tuple V i_is_tuple
    have f4 := k_need_between V f2 i_need_between
    have f5 := k_need_few V i_need_few
    have f6 := k_need_letters V f4 i_need_letters
    have f7 := k_is_monomial V f2 f3 i_is_monomial
    have f8 := k_need_monomial V f7 i_need_monomial
    have f9 := k_divides V i_divides
    have f10 := k_multiple_of V i_multiple_of
    have f11 := k_least_of V f9 i_least_of
    have f12 := k_is_stairs_told V f7 f11 i_is_stairs_told
    have f13 := k_need_stairs V f12 i_need_stairs
    have f14 := k_made_stairs V f5 f11 i_made_stairs
    have f15 := k_need_two V f6 f13 i_need_two
    have f16 := k_pairs_of V i_pairs_of
    have f17 := k_met_monomials V f10 f11 f16 i_met_monomials
    have f18 := k_stairs_sum V f14 f15 i_stairs_sum
    have f19 := k_stairs_both V f14 f15 f17 i_stairs_both
    have f20 := k_stairs_times V f14 f15 f16 i_stairs_times
    have f21 := k_stairs_over V f6 f8 f13 f14 i_stairs_over
    have f22 := k_law_mixed V i_law_mixed
    have f23 := k_law_take V f22 i_law_take
    have f24 := k_law_pick V f23 i_law_pick
    have f25 := k_law_says V i_law_says
    have f26 := k_law_divides V i_law_divides
    have f27 := k_law_common V i_law_common
    have f28 := k_law_least V f26 i_law_least
    have f29 := k_law_monomial V f23 i_law_monomial
    have f30 := k_law_drawn V f23 f24 f28 f29 i_law_drawn
    have f31 := k_law_stands_under V f26 i_law_stands_under
    have f32 := k_law_no_letters V f24 i_law_no_letters
    have f33 := k_law_no_stairs V f24 i_law_no_stairs
    have f34 := k_law_word V i_law_word
    have f35 := k_law_bounds V i_law_bounds
    have hAsk := fun (f : Nat) (wk : W D) (gA : Addr) (A : Around) (outer : List Env) (s : Shared) (H : Hp) (E1 : XK) (g : Gd) (B1 : Hp × Hp) => k_law_asked (P := R.prog) (w := w) V f25 f34 f35 CB f wk gA A outer s H E1 g B1
    have f36 := k_law_products V f28 i_law_products
    have f37 := k_law_met V f27 f28 i_law_met
    have f38 := k_law_over V f28 i_law_over
    have f39 := k_law_is_told V f35 i_law_is_told
    have f40 := k_law_brackets_right V LC LB hAsk f18 f19 f20 f28 f36 f37 f39 i_law_brackets_right
    have fb := (begun_fn (T := [(PA, "law.<locals>.<lambda>"), (PB, "_law_asked.<locals>.<lambda>"), (PC, "_law_brackets_right.<locals>.<lambda>")]) (w := w) (P := R.prog) (base := base) (mg := mg) (k := 1) hb2 bgBody (fun cdv A outer s H E g B cx => k_law_begun1 V _ cdv A outer s H E g B cx) (fun cdv A outer s H E g B cx => k_law_begun3 V _ cdv A outer s H E g B cx)).mono (show 2 ≤ 17 by decide)
    rw [efa]
    exact law_fn (rest := (defBody (top 58)).tail) (i := 1) (N := ["script", "draw", "turn", "letters", "monomial", "lap", "ask", "odd", "first", "second", "third", "shared", "whole", "times", "over", "near", "far", "bad", "none", "words", "here", "there", "power", "more"]) l3A l4A sc_law rfl fb hb2 (hb2.binds fun _ _ _ _ _ _ us hl => match us, hl with | [_], _ => rfl) hb1 rfl rfl (by decide) (.inl rfl) (.inl rfl) rfl rfl (fun _ _ _ _ _ => rfl) (fun _ _ _ _ _ => .inr rfl)
      (fun A outer s H E g B cx => k_law V LA LB hAsk f18 f19 f20 f21 f23 f24 f28 f29 f30 f31 f32 f33 f34 f36 f37 f38 f40 CA _ A outer s H E g B cx) (fun l hl => i_law l hl)
end
end K62

set_option Elab.async false
set_option linter.all false
open PySem PySem.W PySem.Calls PyProof.Rows
set_option maxRecDepth 100000 in
set_option maxHeartbeats 0 in
theorem PySem.Challenge.cw_lotsclosed_k62_whole_sums_of_stairs_holds : PySem.Challenge.rw_lotsclosed_k62_whole_sums_of_stairs.Holds := by
  w_on; o_law
  refine HandSHeadRun.head_imp (r := OpenLaw.row PySem.Challenge.rw_lotsclosed_k62_whole_sums_of_stairs) (q := view (OpenLaw.row PySem.Challenge.rw_lotsclosed_k62_whole_sums_of_stairs).prog [58]) (H := DL.hookL 5 K62.fx K62.fn K62.tf) (ob := K62.ob) (M := 20000) (loose := K62.loose) (d := HandSHeadRun.topDef (OpenLaw.row PySem.Challenge.rw_lotsclosed_k62_whole_sums_of_stairs).prog 58) (kwd := []) K62.ob_eq
    K62.run (by kernel_rfl) (by kernel_rfl) (by kernel_rfl) (by rfl) (by first | assumption | decide +kernel) (by decide +kernel) ⟨rfl, rfl, rfl, rfl, rfl, by decide +kernel⟩ ?hw ?hc
  case hw => w_witness2
  case hc =>
    refine DL.law_end (l := PySem.Challenge.rw_lotsclosed_k62_whole_sums_of_stairs) (n := 63) (k := 18) (x := "script") rfl (by decide) (by kernel_rfl) ⟨rfl, by decide, by decide⟩ ?F
    intro w mg fa h yp G hmg0
    obtain ⟨K, KX, c⟩ := yp
    have hmg : mg ("law" : PySem.Str) = some (.ref fa) := by
      have e : (HandSHeadRun.topDef (OpenLaw.row PySem.Challenge.rw_lotsclosed_k62_whole_sums_of_stairs).prog 58).name = ("law" : PySem.Str) := by kernel_rfl
      rw [← e]
      exact hmg0
    exact ⟨K, KX, K62.lawAt fa KX G c hmg⟩

