import PyProof.Rows.All
import Wide.All
import OpenK.AllK
import Wide.FinOn
import KE.KStateDown
import Lean
import HandS.Base
import HandS.Call
import HandS.Ends
import HandS.More
import HandS.Words
import HandS.WordsExc
import HandS.Defaults
import HandS.Head0
import HandS.Head1
import HandS.Head2
import HandS.HeadEnd
import HandS.HeadHook1
import HandS.HeadHook2
import HandS.ForMost
import HandS.IsInst
import HandS.TupAny
import HandS.Style
import HandS.Exc
import HandS.Wide
import HandS.FStr
import HandS.EndBits
import HandS.Conv
import HandS.Deep
import HandS.Dict
import HandS.DictComp
import HandS.ExcField
import HandS.ExcIs
import HandS.ExcOwn
import HandS.GenList
import HandS.GenOver
import HandS.HeadHook3
import HandS.HeadHook4
import HandS.NoneIn
import HandS.Set
import HandS.SetFor
import HandS.Small
import HandS.SortInts
import HandS.SortOrd
import HandS.SortRule
import HandS.Star
import HandS.Strs
import HandS.TryMany
import HandS.Zip
import KE.KDictPairs
import KE.KExcInit
import KE.KExcIs
import PyProof.ExcBaseAll.LookupError
import PyProof.Rows.SortShellAny
import PySem.Challenge.RW_treewalks_k01_trees_judged
set_option Elab.async false
set_option linter.all false
set_option maxRecDepth 100000
set_option maxHeartbeats 4000000
namespace Dz
open PySem PySem.Spec PyProof.Rows L2

/-! deep values: what never changes is carried whole; what may change is an address -/
inductive D where
  | non | bl (b : Bool) | int (i : Int) | str (x : Str) | tup (ws : List D) | lst (ws : List D) | dic (ks : List Key) (ws : List D) | ref (a : Addr) | ty (n : String)
  | exc (a : Addr) (d : Option Addr) (ns : List Str) (ws : List D)
deriving Inhabited

/-- the locked part of an abstract heap -/
def fz (H : Hp) : Hp := fun b => match H b with
  | some (.frz o u) => some (.frz o u)
  | _ => none
theorem fz_some {H : Hp} {b : Addr} {z : HO} (h : fz H b = some z) : ∃ o u, z = .frz o u ∧ H b = some (.frz o u) := by
  unfold fz at h
  split at h
  · rename_i o u e
    cases h
    exact ⟨o, u, rfl, e⟩
  · cases h
theorem fz_frz {H : Hp} {b : Addr} {o : Obj} {u : HO} (h : H b = some (.frz o u)) : fz H b = some (.frz o u) := by
  unfold fz; rw [h]
abbrev FzL (K : PySem.W.Frag) (H : Hp) (a : Addr) (vs : List V) : Prop := SqL K (fz H) a vs
theorem FzL.sq {K : PySem.W.Frag} {H : Hp} {a : Addr} {vs : List V} (h : FzL K H a vs) : SqL K H a vs := by
  rcases h with (h | ⟨o, h⟩) | h
  · obtain ⟨_, _, e, _⟩ := fz_some h
    cases e
  · obtain ⟨_, _, e, q⟩ := fz_some h
    cases e
    exact .inl (.inr ⟨_, q⟩)
  · exact .inr h

/-- an object without a dict of its own -/
def PlT (K : PySem.W.Frag) (H : Hp) (a : Addr) : Prop := (∃ o u, H a = some (.frz o u) ∧ o.dict = none) ∨ ∃ o, K.lookup a = some o ∧ o.dict = none
def SqN (K : PySem.W.Frag) (H : Hp) (a : Addr) (vs : List V) : Prop := SqT K H a vs ∧ PlT K H a
mutual
def Rep (K : PySem.W.Frag) (H : Hp) : D → V → Prop
  | .non, v => v = .non
  | .bl b, v => v = .bl b
  | .int i, v => v = .int i
  | .str x, v => v = .str x
  | .tup ws, v => ∃ a vs, v = .ref a ∧ SqN K H a vs ∧ Reps K H ws vs
  | .lst ws, v => ∃ a vs, v = .ref a ∧ FzL K H a vs ∧ Reps K H ws vs
  | .dic ks ws, v => ∃ a vs o, v = .ref a ∧ H a = some (.frz o (.dK (ks.zip vs))) ∧ ks.length = vs.length ∧ Reps K H ws vs
  | .ref a, v => v = .ref a
  | .ty n, v => v = .ty n
  | .exc a d ns ws, v => v = .ref a ∧ ((d = none ∧ ns = []) ∨ ∃ b o vs, d = some b ∧ H b = some (.frz o (.xd (ns.zip vs))) ∧ ns.length = vs.length ∧ Reps K H ws vs)
def Reps (K : PySem.W.Frag) (H : Hp) : List D → List V → Prop
  | [], vs => vs = []
  | w :: ws, vs => ∃ v r, vs = v :: r ∧ Rep K H w v ∧ Reps K H ws r
end

/-- what no run changes -/
structure Ext (H H' : Hp) : Prop where
  tups : ∀ b xs, H b = some (.tup xs) → H' b = some (.tup xs)
  frzs : ∀ b o u, H b = some (.frz o u) → H' b = some (.frz o u)
theorem Ext.refl (H : Hp) : Ext H H := ⟨fun _ _ h => h, fun _ _ _ h => h⟩
theorem Ext.trans {H H1 H2 : Hp} (a : Ext H H1) (b : Ext H1 H2) : Ext H H2 := ⟨fun c xs h => b.tups c xs (a.tups c xs h), fun c o u h => b.frzs c o u (a.frzs c o u h)⟩
theorem Ext.new {H : Hp} {p : Addr} {o : HO} (h : H p = none) : Ext H (upd H p o) :=
  ⟨fun b xs e => by rw [upd_ne (ne_of_none e h)]; exact e, fun b ob u e => by rw [upd_ne (ne_of_none e h)]; exact e⟩
/-- a tuple is laid, and locked -/
theorem SqN.new {K : PySem.W.Frag} {H : Hp} {p : Addr} {o : Obj} {vs : List V} (h : o.dict = none) : SqN K (upd H p (.frz o (.tup vs))) p vs := ⟨.inl (.inr ⟨o, upd_same⟩), .inl ⟨o, _, upd_same, h⟩⟩
theorem Ext.put {H : Hp} {p : Addr} {o : HO} (h : Mut (H p)) : Ext H (upd H p o) :=
  ⟨fun b xs e => by rw [upd_ne (fun z => by subst z; rw [e] at h; exact h)]; exact e, fun b ob u e => by rw [upd_ne (fun z => by subst z; rw [e] at h; exact h)]; exact e⟩
theorem Ext.sqT {K : PySem.W.Frag} {H H' : Hp} {a : Addr} {vs : List V} (e : Ext H H') (h : SqT K H a vs) : SqT K H' a vs := by
  rcases h with (h | ⟨o, h⟩) | h
  · exact .inl (.inl (e.tups _ _ h))
  · exact .inl (.inr ⟨o, e.frzs _ _ _ h⟩)
  · exact .inr h
theorem Ext.sqN {K : PySem.W.Frag} {H H' : Hp} {a : Addr} {vs : List V} (e : Ext H H') (h : SqN K H a vs) : SqN K H' a vs := ⟨e.sqT h.1, h.2.imp (fun ⟨o, u, h1, h2⟩ => ⟨o, u, e.frzs _ _ _ h1, h2⟩) id⟩
theorem Ext.fzL {K : PySem.W.Frag} {H H' : Hp} {a : Addr} {vs : List V} (e : Ext H H') (h : FzL K H a vs) : FzL K H' a vs := by
  rcases h with (h | ⟨o, h⟩) | h
  · obtain ⟨_, _, z, _⟩ := fz_some h
    cases z
  · obtain ⟨_, _, z, q⟩ := fz_some h
    cases z
    exact .inl (.inr ⟨_, fz_frz (e.frzs _ _ _ q)⟩)
  · exact .inr h
mutual
theorem Rep.ext {K : PySem.W.Frag} {H H' : Hp} (e : Ext H H') : ∀ (w : D) (v : V), Rep K H w v → Rep K H' w v
  | .non, v, h => h
  | .bl b, v, h => h
  | .int i, v, h => h
  | .str x, v, h => h
  | .tup ws, v, h => by
    obtain ⟨a, vs, h1, h2, h3⟩ := h
    exact ⟨a, vs, h1, e.sqN h2, Reps.ext e ws vs h3⟩
  | .lst ws, v, h => by
    obtain ⟨a, vs, h1, h2, h3⟩ := h
    exact ⟨a, vs, h1, e.fzL h2, Reps.ext e ws vs h3⟩
  | .dic ks ws, v, h => by
    obtain ⟨a, vs, o, h1, h2, h4, h3⟩ := h
    exact ⟨a, vs, o, h1, e.frzs _ _ _ h2, h4, Reps.ext e ws vs h3⟩
  | .ref a, v, h => h
  | .ty n, v, h => h
  | .exc a d ns ws, v, h => by
    obtain ⟨h1, h2⟩ := h
    refine ⟨h1, h2.imp id fun ⟨b, o, vs, e1, e2, e3, e4⟩ => ⟨b, o, vs, e1, e.frzs _ _ _ e2, e3, Reps.ext e ws vs e4⟩⟩
theorem Reps.ext {K : PySem.W.Frag} {H H' : Hp} (e : Ext H H') : ∀ (ws : List D) (vs : List V), Reps K H ws vs → Reps K H' ws vs
  | [], vs, h => h
  | w :: ws, vs, h => by
    obtain ⟨v, r, h1, h2, h3⟩ := h
    exact ⟨v, r, h1, Rep.ext e w v h2, Reps.ext e ws r h3⟩
end
theorem Reps.len {K : PySem.W.Frag} {H : Hp} : ∀ {ws : List D} {vs : List V}, Reps K H ws vs → ws.length = vs.length
  | [], vs, h => by cases (show vs = [] from h); rfl
  | w :: ws, vs, h => by
    obtain ⟨v, r, rfl, _, h3⟩ := h
    rw [List.length_cons, List.length_cons, Reps.len h3]
theorem Reps.get {K : PySem.W.Frag} {H : Hp} : ∀ {ws : List D} {vs : List V} {i : Nat} {w : D}, Reps K H ws vs → ws[i]? = some w → ∃ v, vs[i]? = some v ∧ Rep K H w v
  | [], vs, i, w, h, e => by simp at e
  | x :: ws, vs, 0, w, h, e => by
    obtain ⟨v, r, rfl, h2, h3⟩ := h
    simp at e; subst e
    exact ⟨v, rfl, h2⟩
  | x :: ws, vs, i + 1, w, h, e => by
    obtain ⟨v, r, rfl, h2, h3⟩ := h
    obtain ⟨v', e1, e2⟩ := Reps.get (i := i) (w := w) h3 (by simpa using e)
    exact ⟨v', by simpa using e1, e2⟩
theorem Reps.getV {K : PySem.W.Frag} {H : Hp} : ∀ {ws : List D} {vs : List V} {i : Nat} {v : V}, Reps K H ws vs → vs[i]? = some v → ∃ w, ws[i]? = some w ∧ Rep K H w v := fun {ws vs i v} h e => by
  have hi : i < vs.length := (List.getElem?_eq_some_iff.mp e).1
  have hj : i < ws.length := by rw [h.len]; exact hi
  obtain ⟨v', e1, e2⟩ := h.get (i := i) (w := ws[i]) (by simp [hj])
  rw [e] at e1
  cases e1
  exact ⟨ws[i], by simp [hj], e2⟩
theorem Reps.append {K : PySem.W.Frag} {H : Hp} : ∀ {ws us : List D} {vs rs : List V}, Reps K H ws vs → Reps K H us rs → Reps K H (ws ++ us) (vs ++ rs)
  | [], us, vs, rs, h, g => by cases (show vs = [] from h); exact g
  | w :: ws, us, vs, rs, h, g => by
    obtain ⟨v, r, rfl, h2, h3⟩ := h
    exact ⟨v, r ++ rs, rfl, h2, Reps.append h3 g⟩
theorem Reps.take {K : PySem.W.Frag} {H : Hp} : ∀ {ws : List D} {vs : List V} (n : Nat), Reps K H ws vs → Reps K H (ws.take n) (vs.take n)
  | [], vs, n, h => by cases (show vs = [] from h); simp [Reps]
  | w :: ws, vs, 0, h => by simp [Reps]
  | w :: ws, vs, n + 1, h => by
    obtain ⟨v, r, rfl, h2, h3⟩ := h
    exact ⟨v, r.take n, rfl, h2, Reps.take n h3⟩
theorem Reps.drop {K : PySem.W.Frag} {H : Hp} : ∀ {ws : List D} {vs : List V} (n : Nat), Reps K H ws vs → Reps K H (ws.drop n) (vs.drop n)
  | [], vs, n, h => by cases (show vs = [] from h); simp [Reps]
  | w :: ws, vs, 0, h => h
  | w :: ws, vs, n + 1, h => by
    obtain ⟨v, r, rfl, h2, h3⟩ := h
    exact Reps.drop (ws := ws) (vs := r) n h3
theorem Reps.set {K : PySem.W.Frag} {H : Hp} {w : D} {v : V} (q : Rep K H w v) : ∀ {ws : List D} {vs : List V} (n : Nat), Reps K H ws vs → Reps K H (ws.set n w) (vs.set n v)
  | [], vs, n, h => by cases (show vs = [] from h); exact h
  | x :: ws, vs, 0, h => by
    obtain ⟨y, r, rfl, h2, h3⟩ := h
    exact ⟨v, r, rfl, q, h3⟩
  | x :: ws, vs, n + 1, h => by
    obtain ⟨y, r, rfl, h2, h3⟩ := h
    exact ⟨y, r.set n v, rfl, h2, Reps.set q n h3⟩
theorem Reps.erase {K : PySem.W.Frag} {H : Hp} : ∀ {ws : List D} {vs : List V} (n : Nat), Reps K H ws vs → Reps K H (ws.eraseIdx n) (vs.eraseIdx n)
  | [], vs, n, h => by cases (show vs = [] from h); exact h
  | x :: ws, vs, 0, h => by
    obtain ⟨y, r, rfl, h2, h3⟩ := h
    exact h3
  | x :: ws, vs, n + 1, h => by
    obtain ⟨y, r, rfl, h2, h3⟩ := h
    exact ⟨y, r.eraseIdx n, rfl, h2, Reps.erase n h3⟩
theorem Reps.reverse {K : PySem.W.Frag} {H : Hp} : ∀ {ws : List D} {vs : List V}, Reps K H ws vs → Reps K H ws.reverse vs.reverse
  | [], vs, h => by cases (show vs = [] from h); exact h
  | x :: ws, vs, h => by
    obtain ⟨y, r, rfl, h2, h3⟩ := h
    rw [List.reverse_cons, List.reverse_cons]
    exact Reps.append (Reps.reverse h3) ⟨y, [], rfl, h2, rfl⟩
theorem Reps.ints {K : PySem.W.Frag} {H : Hp} : ∀ {ns : List Int} {vs : List V}, Reps K H (ns.map D.int) vs → vs = ns.map V.int
  | [], vs, h => h
  | n :: ns, vs, h => by
    obtain ⟨y, r, rfl, h2, h3⟩ := h
    rw [Reps.ints (ns := ns) h3, (show y = V.int n from h2)]; rfl
theorem Reps.ofInts {K : PySem.W.Frag} {H : Hp} : ∀ {ns : List Int}, Reps K H (ns.map D.int) (ns.map V.int)
  | [] => rfl
  | n :: ns => ⟨.int n, ns.map V.int, rfl, rfl, Reps.ofInts⟩
theorem Reps.strs {K : PySem.W.Frag} {H : Hp} : ∀ {ns : List Str} {vs : List V}, Reps K H (ns.map D.str) vs → vs = ns.map V.str
  | [], vs, h => h
  | n :: ns, vs, h => by
    obtain ⟨y, r, rfl, h2, h3⟩ := h
    rw [Reps.strs (ns := ns) h3, (show y = V.str n from h2)]; rfl
theorem Reps.ofStrs {K : PySem.W.Frag} {H : Hp} : ∀ {ns : List Str}, Reps K H (ns.map D.str) (ns.map V.str)
  | [] => rfl
  | n :: ns => ⟨.str n, ns.map V.str, rfl, rfl, Reps.ofStrs⟩
theorem Reps.bls {K : PySem.W.Frag} {H : Hp} : ∀ {ns : List Bool} {vs : List V}, Reps K H (ns.map D.bl) vs → vs = ns.map V.bl
  | [], vs, h => h
  | n :: ns, vs, h => by
    obtain ⟨y, r, rfl, h2, h3⟩ := h
    rw [Reps.bls (ns := ns) h3, (show y = V.bl n from h2)]; rfl

/-! what may change: lists, dicts, instances, and one box of ints and private lists of ints -/
abbrev Bx := List (Sum Int (List Int))
inductive MO where
  | lst (ws : List D) | dic (ks : List Key) (ws : List D) | ins (C : Addr) (ns : List Str) (ws : List D) | box (I : Nat → Bx → Prop)
abbrev Mm := Addr → Option MO
structure Sg where
  M : Mm
  n : Nat
  pv : List Addr
def Mm.put (M : Mm) (a : Addr) (o : MO) : Mm := fun b => if b = a then some o else M b
def Mm.del (M : Mm) (a : Addr) : Mm := fun b => if b = a then none else M b
@[simp] theorem Mm.put_same {M : Mm} {a : Addr} {o : MO} : M.put a o a = some o := by simp [Mm.put]
theorem Mm.put_ne {M : Mm} {a b : Addr} {o : MO} (h : b ≠ a) : M.put a o b = M b := by simp [Mm.put, h]
@[simp] theorem Mm.del_same {M : Mm} {a : Addr} : M.del a a = none := by simp [Mm.del]
theorem Mm.del_ne {M : Mm} {a b : Addr} (h : b ≠ a) : M.del a b = M b := by simp [Mm.del, h]
@[simp] theorem Mm.put_put {M : Mm} {a : Addr} {o o' : MO} : (M.put a o).put a o' = M.put a o' := by
  funext b; unfold Mm.put; split <;> rfl
theorem Mm.del_put {M : Mm} {a : Addr} {o : MO} (h : M a = none) : (M.put a o).del a = M := by
  funext b; unfold Mm.put Mm.del
  by_cases e : b = a
  · subst e; simp [h]
  · simp [e]
def Sg.put (s : Sg) (a : Addr) (o : MO) : Sg := { s with M := s.M.put a o }
def Sg.del (s : Sg) (a : Addr) : Sg := { s with M := s.M.del a }
@[simp] theorem Sg.put_M {s : Sg} {a : Addr} {o : MO} : (s.put a o).M = s.M.put a o := rfl
@[simp] theorem Sg.del_M {s : Sg} {a : Addr} : (s.del a).M = s.M.del a := rfl
@[simp] theorem Sg.put_n {s : Sg} {a : Addr} {o : MO} : (s.put a o).n = s.n := rfl
@[simp] theorem Sg.del_n {s : Sg} {a : Addr} : (s.del a).n = s.n := rfl
@[simp] theorem Sg.put_pv {s : Sg} {a : Addr} {o : MO} : (s.put a o).pv = s.pv := rfl
@[simp] theorem Sg.del_pv {s : Sg} {a : Addr} : (s.del a).pv = s.pv := rfl
@[simp] theorem Sg.put_put {s : Sg} {a : Addr} {o o' : MO} : (s.put a o).put a o' = s.put a o' := by
  obtain ⟨M, n, pv⟩ := s
  show Sg.mk ((M.put a o).put a o') n pv = _
  rw [Mm.put_put]; rfl
theorem sg_del_put {s : Sg} {p : Addr} {o : MO} (h : s.M p = none) : (s.put p o).del p = s := by
  obtain ⟨M, n, pv⟩ := s
  show Sg.mk ((M.put p o).del p) n pv = _
  rw [Mm.del_put h]
/-- a box's content: ints, and private lists at the addresses pv -/
def BxAt (H : Hp) : Bx → List V → List Addr → Prop
  | [], vs, as => vs = [] ∧ as = []
  | .inl i :: r, vs, as => ∃ vs', vs = .int i :: vs' ∧ BxAt H r vs' as
  | .inr ns :: r, vs, as => ∃ a vs' as', vs = .ref a :: vs' ∧ as = a :: as' ∧ H a = some (.lst (ns.map V.int)) ∧ BxAt H r vs' as'
def ORep (K : PySem.W.Frag) (H : Hp) (s : Sg) (a : Addr) : MO → Prop
  | .lst ws => ∃ vs, H a = some (.lst vs) ∧ Reps K H ws vs
  | .dic ks ws => ∃ vs, H a = some (.dK (ks.zip vs)) ∧ ks.length = vs.length ∧ Reps K H ws vs
  | .ins C ns ws => ∃ dx vs, H a = some (.ins C dx (ns.zip vs)) ∧ ns.length = vs.length ∧ Reps K H ws vs
  | .box I => ∃ st vs, (∃ m, s.n ≤ m ∧ I m st) ∧ H a = some (.lst vs) ∧ BxAt H st vs s.pv ∧ s.pv.Nodup
structure MRep (K : PySem.W.Frag) (H : Hp) (s : Sg) : Prop where
  at_ : ∀ a o, s.M a = some o → ORep K H s a o
  one : ∀ a b I J, s.M a = some (.box I) → s.M b = some (.box J) → a = b
  pvs : ∀ b ∈ s.pv, Mut (H b) ∧ s.M b = none
theorem ORep.mut {K : PySem.W.Frag} {H : Hp} {s : Sg} {a : Addr} {o : MO} (h : ORep K H s a o) : Mut (H a) := by
  cases o with
  | lst ws => obtain ⟨vs, e, _⟩ := h; rw [e]; trivial
  | dic ks ws => obtain ⟨vs, e, _⟩ := h; rw [e]; trivial
  | ins C ns ws => obtain ⟨dx, vs, e, _⟩ := h; rw [e]; trivial
  | box I => obtain ⟨st, vs, _, e, _⟩ := h; rw [e]; trivial
theorem MRep.free {K : PySem.W.Frag} {H : Hp} {s : Sg} (m : MRep K H s) {a : Addr} (h : H a = none) : s.M a = none := by
  cases q : s.M a with
  | none => rfl
  | some o => have := (m.at_ a o q).mut; rw [h] at this; exact this.elim
theorem MRep.npv {K : PySem.W.Frag} {H : Hp} {s : Sg} (m : MRep K H s) {a : Addr} (h : H a = none) : a ∉ s.pv := fun q => by
  have := (m.pvs a q).1; rw [h] at this; exact this
theorem BxAt.keep {H H' : Hp} : ∀ {st : Bx} {vs : List V} {as : List Addr}, BxAt H st vs as → (∀ b ∈ as, H' b = H b) → BxAt H' st vs as
  | [], vs, as, h, k => h
  | .inl i :: r, vs, as, h, k => by obtain ⟨vs', e, h'⟩ := h; exact ⟨vs', e, BxAt.keep h' k⟩
  | .inr ns :: r, vs, as, h, k => by
    obtain ⟨a, vs', as', e1, rfl, e, h'⟩ := h
    exact ⟨a, vs', as', e1, rfl, (k a List.mem_cons_self).trans e, BxAt.keep h' fun b hb => k b (List.mem_cons_of_mem _ hb)⟩
/-- the state's step: what never changes stays, and so does what is not tracked -/
structure Stp (H : Hp) (s : Sg) (H' : Hp) (s' : Sg) : Prop where
  ext : Ext H H'
  fr : ∀ b o, H b = some o → Mut (some o) → s.M b = none → b ∉ s.pv → H' b = some o ∧ s'.M b = none ∧ b ∉ s'.pv
theorem Stp.refl (H : Hp) (s : Sg) : Stp H s H s := ⟨.refl _, fun _ _ h _ h2 h3 => ⟨h, h2, h3⟩⟩
theorem Stp.trans {H H1 H2 : Hp} {s s1 s2 : Sg} (a : Stp H s H1 s1) (b : Stp H1 s1 H2 s2) : Stp H s H2 s2 :=
  ⟨a.ext.trans b.ext, fun c o h1 h2 h3 h4 => by obtain ⟨x, y, z⟩ := a.fr c o h1 h2 h3 h4; exact b.fr c o x h2 y z⟩
theorem Stp.new {H : Hp} {s : Sg} {p : Addr} {o : HO} (h : H p = none) : Stp H s (upd H p o) s :=
  ⟨.new h, fun b u h1 _ h3 h4 => ⟨by rw [upd_ne (ne_of_none h1 h)]; exact h1, h3, h4⟩⟩
/-- one object is made or written, and tracked -/
theorem Stp.put {H : Hp} {s : Sg} {p : Addr} {o : HO} {mo : MO} (h : H p = none ∨ (Mut (H p) ∧ s.M p ≠ none)) : Stp H s (upd H p o) (s.put p mo) := by
  have ne : ∀ b u, H b = some u → s.M b = none → b ≠ p := fun b u h1 h2 z => by
    subst z
    rcases h with h | h
    · rw [h] at h1; cases h1
    · exact h.2 h2
  refine ⟨?_, fun b u h1 _ h3 h4 => ⟨by rw [upd_ne (ne b u h1 h3)]; exact h1, (Mm.put_ne (ne b u h1 h3)).trans h3, h4⟩⟩
  rcases h with h | h
  · exact .new h
  · exact .put h.1
theorem Stp.del {H : Hp} {s : Sg} {p : Addr} {o : HO} (h : Mut (H p)) (h2 : s.M p ≠ none) : Stp H s (upd H p o) (s.del p) := by
  have ne : ∀ b, s.M b = none → b ≠ p := fun b h3 z => by subst z; exact h2 h3
  exact ⟨.put h, fun b u h1 _ h3 h4 => ⟨by rw [upd_ne (ne b h3)]; exact h1, (Mm.del_ne (ne b h3)).trans h3, h4⟩⟩
theorem Stp.weak {H : Hp} {s s' : Sg} (k : ∀ a o, s'.M a = some o → s.M a = some o) (kp : s'.pv = s.pv) : Stp H s H s' :=
  ⟨.refl _, fun b u h1 _ h3 h4 => by
    refine ⟨h1, ?_, by rw [kp]; exact h4⟩
    cases z : s'.M b with
    | none => rfl
    | some x => rw [k b x z] at h3; cases h3⟩
/-- nothing of what may change was touched -/
theorem MRep.ext {K : PySem.W.Frag} {H H' : Hp} {s : Sg} (m : MRep K H s) (e : Ext H H') (k : ∀ b, Mut (H b) → H' b = H b) : MRep K H' s where
  at_ := fun a o h => by
    have q := m.at_ a o h
    have ka := k a q.mut
    cases o with
    | lst ws => obtain ⟨vs, h1, h2⟩ := q; exact ⟨vs, ka.trans h1, Reps.ext e _ _ h2⟩
    | dic ks ws => obtain ⟨vs, h1, h2, h3⟩ := q; exact ⟨vs, ka.trans h1, h2, Reps.ext e _ _ h3⟩
    | ins C ns ws => obtain ⟨dx, vs, h1, h2, h3⟩ := q; exact ⟨dx, vs, ka.trans h1, h2, Reps.ext e _ _ h3⟩
    | box I =>
      obtain ⟨st, vs, h0, h1, h2, h3⟩ := q
      exact ⟨st, vs, h0, ka.trans h1, h2.keep fun b hb => k b (m.pvs b hb).1, h3⟩
  one := m.one
  pvs := fun b hb => by rw [k b (m.pvs b hb).1]; exact m.pvs b hb
/-- a new object -/
theorem MRep.new {K : PySem.W.Frag} {H : Hp} {s : Sg} {p : Addr} {o : HO} (m : MRep K H s) (h : H p = none) : MRep K (upd H p o) s :=
  m.ext (.new h) fun b z => upd_ne fun q => by subst q; rw [h] at z; exact z
/-- forget some -/
theorem MRep.weak {K : PySem.W.Frag} {H : Hp} {s s' : Sg} (m : MRep K H s) (k : ∀ a o, s'.M a = some o → s.M a = some o) (kn : s'.n ≤ s.n) (kp : s'.pv = s.pv) : MRep K H s' where
  at_ := fun a o h => by
    have q := m.at_ a o (k a o h)
    cases o with
    | lst ws => exact q
    | dic ks ws => exact q
    | ins C ns ws => exact q
    | box I =>
      obtain ⟨st, vs, ⟨m0, hm, hI⟩, h1, h2, h3⟩ := q
      exact ⟨st, vs, ⟨m0, Nat.le_trans kn hm, hI⟩, h1, by rw [kp]; exact h2, by rw [kp]; exact h3⟩
  one := fun a b I J h1 h2 => m.one a b I J (k _ _ h1) (k _ _ h2)
  pvs := fun b hb => by
    rw [kp] at hb
    refine ⟨(m.pvs b hb).1, ?_⟩
    cases z : s'.M b with
    | none => rfl
    | some u => exact absurd (k b u z) (by rw [(m.pvs b hb).2]; simp)
/-- write a tracked object, or track a new one -/
theorem MRep.write {K : PySem.W.Frag} {H : Hp} {s : Sg} {p : Addr} {o : HO} {mo : MO} (m : MRep K H s) (h : H p = none ∨ ∃ u, s.M p = some u ∧ ∀ I, u ≠ .box I) (nb : ∀ I, mo ≠ .box I) (new : ORep K (upd H p o) (s.put p mo) p mo) : MRep K (upd H p o) (s.put p mo) := by
  have np : p ∉ s.pv := fun q => by
    rcases h with h | ⟨u, h, _⟩
    · exact m.npv h q
    · rw [(m.pvs p q).2] at h; cases h
  have mp : H p = none ∨ Mut (H p) := by
    rcases h with h | ⟨u, h, _⟩
    · exact .inl h
    · exact .inr (m.at_ p u h).mut
  have ex : Ext H (upd H p o) := by
    rcases mp with z | z
    · exact .new z
    · exact .put z
  have nep : ∀ b ∈ s.pv, b ≠ p := fun b hb e => by subst e; exact np hb
  refine ⟨fun a u h1 => ?_, fun a b I J h1 h2 => ?_, fun b hb => ?_⟩
  · by_cases ha : a = p
    · subst ha
      rw [show (s.put a mo).M a = some mo from Mm.put_same] at h1
      cases h1
      exact new
    · have h1' : s.M a = some u := by rw [← h1]; exact (Mm.put_ne ha).symm
      have q := m.at_ a u h1'
      cases u with
      | lst ws => obtain ⟨vs, z1, z2⟩ := q; exact ⟨vs, by rw [upd_ne ha]; exact z1, Reps.ext ex _ _ z2⟩
      | dic ks ws => obtain ⟨vs, z1, z2, z3⟩ := q; exact ⟨vs, by rw [upd_ne ha]; exact z1, z2, Reps.ext ex _ _ z3⟩
      | ins C ns ws => obtain ⟨dx, vs, z1, z2, z3⟩ := q; exact ⟨dx, vs, by rw [upd_ne ha]; exact z1, z2, Reps.ext ex _ _ z3⟩
      | box I =>
        obtain ⟨st, vs, z0, z1, z2, z3⟩ := q
        exact ⟨st, vs, z0, by rw [upd_ne ha]; exact z1, z2.keep fun b hb => upd_ne (nep b hb), z3⟩
  · have ha : a ≠ p := fun e => by subst e; rw [show (s.put a mo).M a = some mo from Mm.put_same] at h1; cases h1; exact nb _ rfl
    have hb' : b ≠ p := fun e => by subst e; rw [show (s.put b mo).M b = some mo from Mm.put_same] at h2; cases h2; exact nb _ rfl
    rw [show (s.put p mo).M a = s.M a from Mm.put_ne ha] at h1
    rw [show (s.put p mo).M b = s.M b from Mm.put_ne hb'] at h2
    exact m.one a b I J h1 h2
  · exact ⟨by rw [upd_ne (nep b hb)]; exact (m.pvs b hb).1, (Mm.put_ne (nep b hb)).trans (m.pvs b hb).2⟩
end Dz
namespace Dz
open PySem PySem.Spec PyProof.Rows L2

/-! ### readings over deep values -/
abbrev Ev := List (Option D)
abbrev KD := D → Sg → Prop
abbrev DE := Ev → Sg → KD → Prop
abbrev DT := Ev → Sg → (Bool → Sg → Prop) → Prop
abbrev DA := Ev → Sg → (List D → Sg → Prop) → Prop
structure DEnds where
  nx : Ev → Sg → Prop
  rt : KD
  bk : Ev → Sg → Prop := fun _ _ => False
  ct : Ev → Sg → Prop := fun _ _ => False
abbrev DS := DEnds → Ev → Sg → Prop

def REnv (K : PySem.W.Frag) (H : Hp) (env : Ev) (σ : L2.St) : Prop := env.length = σ.length ∧ ∀ (i : Nat) w, env[i]? = some (some w) → ∃ v, σ[i]? = some (some v) ∧ Rep K H w v
theorem REnv.ext {K : PySem.W.Frag} {H H' : Hp} {env : Ev} {σ : L2.St} (e : Ext H H') (h : REnv K H env σ) : REnv K H' env σ :=
  ⟨h.1, fun i w q => by obtain ⟨v, a, b⟩ := h.2 i w q; exact ⟨v, a, Rep.ext e _ _ b⟩⟩
theorem REnv.set {K : PySem.W.Frag} {H : Hp} {env : Ev} {σ : L2.St} {w : D} {v : V} (i : Nat) (h : REnv K H env σ) (r : Rep K H w v) : REnv K H (env.set i (some w)) (σ.set i (some v)) := by
  refine ⟨by rw [List.length_set, List.length_set]; exact h.1, fun j u q => ?_⟩
  rw [List.getElem?_set] at q
  rw [List.getElem?_set]
  split at q
  · rename_i e
    subst e
    split at q
    · rename_i lt
      cases q
      rw [if_pos rfl, if_pos (by rw [← h.1]; exact lt)]
      exact ⟨v, rfl, r⟩
    · cases q
  · rename_i ne
    rw [if_neg ne]
    exact h.2 j u q
def Post (K : PySem.W.Frag) (H : Hp) (s0 : Sg) (R : KD) (Q : VK) : Prop := ∀ w s v H', R w s → Stp H s0 H' s → MRep K H' s → Rep K H' w v → Q v H'
def PostB (K : PySem.W.Frag) (H : Hp) (s0 : Sg) (R : Bool → Sg → Prop) (Q : Bool → Hp → Prop) : Prop := ∀ b s H', R b s → Stp H s0 H' s → MRep K H' s → Q b H'
def PostA (K : PySem.W.Frag) (H : Hp) (s0 : Sg) (R : List D → Sg → Prop) (Q : List V → Hp → Prop) : Prop := ∀ w s v H', R w s → Stp H s0 H' s → MRep K H' s → Reps K H' w v → Q v H'
def PostN (K : PySem.W.Frag) (H : Hp) (s0 : Sg) (R : Ev → Sg → Prop) (Q : L2.St → Hp → Prop) : Prop := ∀ env s σ H', R env s → Stp H s0 H' s → MRep K H' s → REnv K H' env σ → Q σ H'
theorem Post.ext {K : PySem.W.Frag} {H H1 : Hp} {s0 s1 : Sg} {R : KD} {Q : VK} (e : Stp H s0 H1 s1) (p : Post K H s0 R Q) : Post K H1 s1 R Q := fun w s v H' a b c d => p w s v H' a (e.trans b) c d
theorem PostB.ext {K : PySem.W.Frag} {H H1 : Hp} {s0 s1 : Sg} {R : Bool → Sg → Prop} {Q : Bool → Hp → Prop} (e : Stp H s0 H1 s1) (p : PostB K H s0 R Q) : PostB K H1 s1 R Q := fun w s H' a b c => p w s H' a (e.trans b) c
theorem PostA.ext {K : PySem.W.Frag} {H H1 : Hp} {s0 s1 : Sg} {R : List D → Sg → Prop} {Q : List V → Hp → Prop} (e : Stp H s0 H1 s1) (p : PostA K H s0 R Q) : PostA K H1 s1 R Q := fun w s v H' a b c d => p w s v H' a (e.trans b) c d
theorem PostN.ext {K : PySem.W.Frag} {H H1 : Hp} {s0 s1 : Sg} {R : Ev → Sg → Prop} {Q : L2.St → Hp → Prop} (e : Stp H s0 H1 s1) (p : PostN K H s0 R Q) : PostN K H1 s1 R Q := fun w s v H' a b c d => p w s v H' a (e.trans b) c d
structure PostD (K : PySem.W.Frag) (H : Hp) (s0 : Sg) (DD : DEnds) (D : Ends) : Prop where
  nx : PostN K H s0 DD.nx D.nx
  rt : Post K H s0 DD.rt D.rt
  bk : PostN K H s0 DD.bk D.bk
  ct : PostN K H s0 DD.ct D.ct
theorem PostD.ext {K : PySem.W.Frag} {H H1 : Hp} {s0 s1 : Sg} {DD : DEnds} {D : Ends} (e : Stp H s0 H1 s1) (p : PostD K H s0 DD D) : PostD K H1 s1 DD D := ⟨p.nx.ext e, p.rt.ext e, p.bk.ext e, p.ct.ext e⟩

def liftE (K : PySem.W.Frag) (t : DE) : TE := fun σ H Q => ∃ env s R, REnv K H env σ ∧ MRep K H s ∧ t env s R ∧ Post K H s R Q
def liftT (K : PySem.W.Frag) (t : DT) : TT := fun σ H Q => ∃ env s R, REnv K H env σ ∧ MRep K H s ∧ t env s R ∧ PostB K H s R Q
def liftA (K : PySem.W.Frag) (t : DA) : TA := fun σ H Q => ∃ env s R, REnv K H env σ ∧ MRep K H s ∧ t env s R ∧ PostA K H s R Q
def liftS (K : PySem.W.Frag) (t : DS) : TS := fun D σ H => ∃ env s DD, REnv K H env σ ∧ MRep K H s ∧ t DD env s ∧ PostD K H s DD D
abbrev PD (X : Cx) (e : Expr) (t : DE) : Prop := PE X e (liftE X.K t)
abbrev PDT (X : Cx) (e : Expr) (t : DT) : Prop := PT X e (liftT X.K t)
abbrev PDW (X : Cx) (e : Expr) (t : DT) : Prop := PW X e (liftT X.K t)
abbrev PDA (X : Cx) (es : List Expr) (t : DA) : Prop := PA X es (liftA X.K t)
abbrev PDS (X : Cx) (st : Stmt) (t : DS) : Prop := PS X st (liftS X.K t)
abbrev PDSs (X : Cx) (st : List Stmt) (t : DS) : Prop := PSs X st (liftS X.K t)

section
variable {X : Cx}
theorem pe_imp {e : Expr} {t t' : TE} (h : PE X e t) (hi : ∀ σ H Q, t' σ H Q → t σ H Q) : PE X e t' := ⟨fun pins s σ H Q I q => h.run pins s σ H Q I (hi σ H Q q)⟩
theorem pt_imp {e : Expr} {t t' : TT} (h : PT X e t) (hi : ∀ σ H Q, t' σ H Q → t σ H Q) : PT X e t' := ⟨fun pins s σ H Q I q => h.run pins s σ H Q I (hi σ H Q q)⟩
theorem pw_imp {e : Expr} {t t' : TT} (h : PW X e t) (hi : ∀ σ H Q, t' σ H Q → t σ H Q) : PW X e t' := ⟨fun wh pins s σ H Q I q => h.run wh pins s σ H Q I (hi σ H Q q)⟩
theorem pa_imp {e : List Expr} {t t' : TA} (h : PA X e t) (hi : ∀ σ H Q, t' σ H Q → t σ H Q) : PA X e t' := ⟨fun pos pins s σ H Q I q => h.run pos pins s σ H Q I (hi σ H Q q)⟩
theorem ps_imp {e : Stmt} {t t' : TS} (h : PS X e t) (hi : ∀ D σ H, t' D σ H → t D σ H) : PS X e t' := ⟨fun pins s σ H D I q => h.run pins s σ H D I (hi D σ H q)⟩
theorem pss_imp {e : List Stmt} {t t' : TS} (h : PSs X e t) (hi : ∀ D σ H, t' D σ H → t D σ H) : PSs X e t' := ⟨fun pins s σ H D I q => h.run pins s σ H D I (hi D σ H q)⟩

/-! ### names, constants -/
def dVar (i : Nat) : DE := fun env s R => match env[i]? with
  | some (some w) => R w s
  | _ => False
def dC (w : D) : DE := fun _ s R => R w s
theorem pd_var (i : Nat) {x : Str} {pos : Pos} (hN : X.N[i]? = some x := by rfl) (hv : Vis X.env.scope x := by first | exact Or.inl rfl | exact Or.inr (Or.inl rfl) | exact Or.inr (Or.inr rfl)) (hd : (x == ("__debug__" : Str)) = false := by decide)
    (hcd : (x == ("__classdict__" : Str)) = false := by decide) : PD X (.Name x pos) (dVar i) :=
  pe_imp (pe_var hN hv hd hcd) fun σ H Q ⟨env, s, R, h1, h2, h3, h4⟩ => by
    unfold dVar at h3
    split at h3
    · rename_i w e
      obtain ⟨v, a, b⟩ := h1.2 i w e
      exact ⟨v, a, h4 w s v H h3 (.refl _ _) h2 b⟩
    · exact h3.elim
/-- a constant that no heap is asked for -/
def flatD : D → Option V
  | .non => some .non
  | .bl b => some (.bl b)
  | .int i => some (.int i)
  | .str x => some (.str x)
  | .ref a => some (.ref a)
  | .ty n => some (.ty n)
  | _ => none
theorem flatD_rep {w : D} {v : V} (K : PySem.W.Frag) (H : Hp) (h : flatD w = some v) : Rep K H w v := by
  cases w <;> first | (cases h; rfl) | cases h
theorem pd_c {e : Expr} {w : D} {v : V} (h : PE X e (tC v)) (hf : flatD w = some v := by rfl) : PD X e (dC w) :=
  pe_imp h fun σ H Q ⟨env, s, R, h1, h2, h3, h4⟩ => h4 w s v H h3 (.refl _ _) h2 (flatD_rep _ _ hf)
theorem pd_int {i : Int} {j : Nat} {pos : Pos} : PD X (.Constant (.int i) j pos) (dC (.int i)) := pd_c pe_int
theorem pd_bl {b : Bool} {j : Nat} {pos : Pos} : PD X (.Constant (.bool b) j pos) (dC (.bl b)) := pd_c pe_bl
theorem pd_non {j : Nat} {pos : Pos} : PD X (.Constant .none j pos) (dC .non) := pd_c pe_non
theorem pd_str {x : Str} {j : Nat} {pos : Pos} : PD X (.Constant (.str x) j pos) (dC (.str x)) := pd_c pe_str
/-- a module's constant -/
theorem pd_glob {x : Str} {w : D} {v : V} {u : Value} {pos : Pos} (hg : Gl X x) (hm : X.mg x = some u) (r : RelV v u) (hf : flatD w = some v := by rfl) (hd : (x == ("__debug__" : Str)) = false := by decide) : PD X (.Name x pos) (dC w) := pd_c (pe_glob hg hm r hd) hf
/-- a built-in class by its name -/
theorem pd_ty {x : Str} {n : String} {pos : Pos} (hg : Gl X x) (hm : X.mg x = none) (hv : bootBuiltins x = some (.type n)) (hn : x ≠ "__name__" := by decide) (hd : (x == ("__debug__" : Str)) = false := by decide) : PD X (.Name x pos) (dC (.ty n)) :=
  pd_c (pe_bltn (v := .ty n) hg hm hv rfl hn hd)

/-! ### argument lists, tuples, lists -/
def dNil : DA := fun _ s R => R [] s
def dCons (t : DE) (u : DA) : DA := fun env s R => t env s fun x s1 => u env s1 fun xs s2 => R (x :: xs) s2
theorem pda_nil : PDA X [] dNil := pa_imp pa_nil fun σ H Q ⟨env, s, R, h1, h2, h3, h4⟩ => h4 [] s [] H h3 (.refl _ _) h2 rfl
theorem pda_cons {e : Expr} {es : List Expr} {t : DE} {u : DA} (h : PD X e t) (hr : PDA X es u) (hs : starEach (e :: es) X.env = (false, eval e X.env) :: starEach es X.env := by rfl) : PDA X (e :: es) (dCons t u) :=
  pa_imp (pa_cons h hr hs) fun σ H Q ⟨env, s, R, h1, h2, h3, h4⟩ => ⟨env, s, _, h1, h2, h3, fun w s1 v H1 q e1 m1 r1 => ⟨env, s1, _, h1.ext e1.ext, m1, q, fun ws s2 vs H2 q2 e2 m2 r2 =>
    h4 (w :: ws) s2 (v :: vs) H2 q2 (e1.trans e2) m2 ⟨v, vs, rfl, Rep.ext e2.ext _ _ r1, r2⟩⟩⟩
/-! ### new tuples are locked at once: their objects have no dict -/
theorem pe_tupN {es : List Expr} {t : TA} {x1 : Nat} {pos : Pos} (h : PA X es t) : PE X (.Tuple es x1 pos) (fun σ H Q => t σ H fun xs H1 => xs.length ≤ sizeLine ∧ ∀ (p : Addr) (o : Obj), H1 p = none → o.dict = none → Q (.ref p) (upd H1 p (.frz o (.tup xs)))) := by
  refine ⟨fun pins s σ H Q I hq => ?_⟩
  refine wpAny_Tuple_spliced (thn (h.run pos pins s σ H _ I hq) fun us s1 ⟨xs, H1, I1, r, z, q⟩ => ⟨by rw [← r.length]; exact z, ?_⟩)
  have hf : H1 s1.heap.objs.size = none := I1.hok.fresh (Nat.le_refl _)
  refine ⟨.ref s1.heap.objs.size, _, I1.laid (t' := s1.toks) (o := .frz { cls := .type "tuple", data := .seq us.toArray } (.tup xs)) (fun b u e => Heap.get?_push_of_some _ e) (Nat.le_refl _) ?_, rfl, q _ _ hf rfl⟩
  exact ⟨Heap.get?_push_size _ rfl, z, us, r, ⟨_, Heap.get?_push_size _ rfl, rfl, _, rfl⟩⟩
def dTup (t : DA) : DE := fun env s R => t env s fun ws s1 => ws.length ≤ 1000000 ∧ R (.tup ws) s1
theorem mil : (1000000 : Nat) ≤ sizeLine := by rw [sizeLine_eq]; decide
theorem pd_tup {es : List Expr} {t : DA} {k : Nat} {pos : Pos} (h : PDA X es t) : PD X (.Tuple es k pos) (dTup t) :=
  pe_imp (pe_tupN h) fun σ H Q ⟨env, s, R, h1, h2, h3, h4⟩ => ⟨env, s, _, h1, h2, h3, fun ws s1 vs H1 ⟨l, q⟩ e1 m1 r1 => ⟨by rw [← r1.len]; exact Nat.le_trans l mil, fun p o hp ho =>
    h4 (.tup ws) s1 (.ref p) _ q (e1.trans (.new hp)) (m1.new hp) ⟨p, vs, rfl, .new ho, Reps.ext (.new hp) _ _ r1⟩⟩⟩
/-- the empty tuple is one object -/
theorem pd_tup0 {k : Nat} {pos : Pos} : PD X (.Tuple [] k pos) (dC (.tup [])) :=
  pe_imp (pe_tupN (X := X) pa_nil) fun σ H Q ⟨env, s, R, h1, h2, h3, h4⟩ => ⟨Nat.zero_le _, fun p o hp ho => h4 (.tup []) s (.ref p) _ h3 (.new hp) (h2.new hp) ⟨p, [], rfl, .new ho, rfl⟩⟩
/-- a list that may change -/
def dLstM (t : DA) : DE := fun env s R => t env s fun ws s1 => ws.length ≤ 1000000 ∧ ∀ p, s1.M p = none → R (.ref p) (s1.put p (.lst ws))
theorem pd_lstM {es : List Expr} {t : DA} {pos : Pos} (h : PDA X es t) : PD X (.List es pos) (dLstM t) :=
  pe_imp (pe_lst h) fun σ H Q ⟨env, s, R, h1, h2, h3, h4⟩ => ⟨env, s, _, h1, h2, h3, fun ws s1 vs H1 ⟨l, q⟩ e1 m1 r1 => ⟨by rw [← r1.len]; exact Nat.le_trans l mil, fun p hp =>
    h4 (.ref p) _ (.ref p) _ (q p (m1.free hp)) (e1.trans (.put (.inl hp))) (m1.write (.inl hp) (fun _ => nofun) ⟨vs, upd_same, Reps.ext (.new hp) _ _ r1⟩) rfl⟩⟩

/-! ### a list is locked: from then on it is a value -/
theorem inv_freeze {pins : List (Addr × Obj)} {σ : L2.St} {H : Hp} {s : Shared} {a : Addr} {z : HO} (I : Inv X pins σ H s) (h : H a = some z) (hz : Mut (some z)) : ∃ o, Inv X pins σ (upd H a (.frz o z)) s := by
  have ok := I.hok a z h
  obtain ⟨o, ho⟩ : ∃ o, s.heap.get? a = some o := by
    have := ok.lt
    cases z with
    | lst xs => obtain ⟨_, _, _, _, e⟩ := ok; exact ⟨_, e⟩
    | dK kvs => obtain ⟨_, _, _, _, o, _, _, e, _⟩ := ok; exact ⟨_, e⟩
    | dT kvs => obtain ⟨_, _, _, _, o, _, _, e, _⟩ := ok; exact ⟨_, e⟩
    | set S n => obtain ⟨o, _, _, _, e, _⟩ := ok; exact ⟨_, e⟩
    | ins C dx fs => obtain ⟨_, _, _, e, _⟩ := ok; exact ⟨_, e⟩
    | ext φ => obtain ⟨_, ⟨o, e⟩, _⟩ := ok; exact ⟨_, e⟩
    | _ => exact hz.elim
  have nm : ∀ b u, H b = some u → ¬ Mut (some u) → b ≠ a := fun b u e n q => by subst q; rw [h] at e; cases e; exact n hz
  have own : ∀ b c, H b = some (.own c) → upd H a (.frz o z) b = some (.own c) := fun b c e => by rw [upd_ne (nm b _ e fun q => q)]; exact e
  have tup : ∀ b c, H b = some (.tup c) → upd H a (.frz o z) b = some (.tup c) := fun b c e => by rw [upd_ne (nm b _ e fun q => q)]; exact e
  have fre : ∀ b, H b = none → upd H a (.frz o z) b = none := fun b e => by rw [upd_ne (fun q => by subst q; rw [h] at e; cases e)]; exact e
  refine ⟨o, ⟨I.ok, I.os, I.bare, ?_, I.loc, I.cell, fre _ I.free, fun x c e => fre _ (I.freeC x c e), fun p hp => ?_, fun b u e => ?_, I.len⟩⟩
  · have u := I.base
    exact ⟨u.keep, u.slot, fun b ob q n x => fre b (u.free b ob q n x), u.there, fun b xs e => tup b xs (u.tups b xs e), fun b ob w e => by
      have e' := u.frzs b ob w e
      rw [upd_ne (nm b _ e' fun q => q)]; exact e', fun b ps e => by
      obtain ⟨m, e'⟩ := u.tbls b ps e
      exact ⟨m, by rw [upd_ne (nm b _ e' fun q => q)]; exact e'⟩⟩
  · obtain ⟨p1, p2, p3⟩ := I.pin p hp
    exact ⟨p1, fre _ p2, p3⟩
  · by_cases hb : b = a
    · subst hb
      rw [upd_same] at e
      cases e
      exact ⟨ho, ok.stay (fun _ _ _ q => q) (fun c q => own c _ q) fun c xs q => tup c xs q⟩
    · rw [upd_ne hb] at e
      exact (I.hok b u e).stay (fun _ _ _ q => q) (fun c q => own c _ q) fun c xs q => tup c xs q
def tFrz (t : TE) : TE := fun σ H Q => t σ H fun v H1 => ∃ a z, v = .ref a ∧ H1 a = some z ∧ Mut (some z) ∧ ∀ o, Q v (upd H1 a (.frz o z))
theorem pe_frz {e : Expr} {t : TE} (h : PE X e t) : PE X e (tFrz t) := ⟨fun pins s σ H Q I q => thn (h.run pins s σ H _ I q) fun u s' ⟨v, H1, I1, r, a, z, e1, e2, e3, k⟩ => by
  obtain ⟨o, I2⟩ := inv_freeze I1 e2 e3
  exact ⟨v, _, I2, r, k o⟩⟩
/-- a mutable list becomes a value -/
def dFrz (t : DE) : DE := fun env s R => t env s fun w s1 => match w with
  | .ref a => (match s1.M a with
    | some (.lst ws) => R (.lst ws) (s1.del a)
    | some (.dic ks ws) => R (.dic ks ws) (s1.del a)
    | _ => False)
  | _ => False
theorem mrep_del {K : PySem.W.Frag} {H : Hp} {s : Sg} {a : Addr} {o : Obj} {z : HO} {mo : MO} (m : MRep K H s) (h : s.M a = some mo) (hz : H a = some z) : MRep K (upd H a (.frz o z)) (s.del a) := by
  have mu := (m.at_ a _ h).mut
  have ex : Ext H (upd H a (.frz o z)) := .put mu
  have na : ∀ b ∈ s.pv, b ≠ a := fun b hb e => by subst e; rw [(m.pvs b hb).2] at h; cases h
  refine ⟨fun b u e => ?_, fun b c I J e1 e2 => ?_, fun b hb => ?_⟩
  · have nb' : b ≠ a := fun q => by subst q; rw [show (s.del b).M b = none from Mm.del_same] at e; cases e
    have e' : s.M b = some u := by rw [← e]; exact (Mm.del_ne nb').symm
    have q := m.at_ b u e'
    cases u with
    | lst ws => obtain ⟨vs, z1, z2⟩ := q; exact ⟨vs, by rw [upd_ne nb']; exact z1, Reps.ext ex _ _ z2⟩
    | dic ks ws => obtain ⟨vs, z1, z2, z3⟩ := q; exact ⟨vs, by rw [upd_ne nb']; exact z1, z2, Reps.ext ex _ _ z3⟩
    | ins C ns ws => obtain ⟨dx, vs, z1, z2, z3⟩ := q; exact ⟨dx, vs, by rw [upd_ne nb']; exact z1, z2, Reps.ext ex _ _ z3⟩
    | box I =>
      obtain ⟨st, vs, z0, z1, z2, z3⟩ := q
      exact ⟨st, vs, z0, by rw [upd_ne nb']; exact z1, z2.keep fun c hc => upd_ne (na c hc), z3⟩
  · have nb1 : b ≠ a := fun q => by subst q; rw [show (s.del b).M b = none from Mm.del_same] at e1; cases e1
    have nb2 : c ≠ a := fun q => by subst q; rw [show (s.del c).M c = none from Mm.del_same] at e2; cases e2
    rw [show (s.del a).M b = s.M b from Mm.del_ne nb1] at e1
    rw [show (s.del a).M c = s.M c from Mm.del_ne nb2] at e2
    exact m.one b c I J e1 e2
  · exact ⟨by rw [upd_ne (na b hb)]; exact (m.pvs b hb).1, (Mm.del_ne (na b hb)).trans (m.pvs b hb).2⟩
theorem pd_frz {e : Expr} {t : DE} (h : PD X e t) : PD X e (dFrz t) :=
  pe_imp (pe_frz h) fun σ H Q ⟨env, s, R, h1, h2, h3, h4⟩ => ⟨env, s, _, h1, h2, h3, fun w s1 v H1 q e1 m1 r1 => by
    cases w with
    | ref a =>
      cases (show v = .ref a from r1)
      dsimp only at q
      cases hm : s1.M a with
      | none => rw [hm] at q; exact q.elim
      | some mo =>
        rw [hm] at q
        cases mo with
        | lst ws =>
          obtain ⟨vs, z1, z2⟩ := m1.at_ a _ hm
          have ex : ∀ o, Ext H1 (upd H1 a (.frz o (.lst vs))) := fun o => .put (by rw [z1]; trivial)
          exact ⟨a, _, rfl, z1, trivial, fun o => h4 (.lst ws) _ _ _ q (e1.trans (.del (by rw [z1]; trivial) (by rw [hm]; simp))) (mrep_del m1 hm z1) ⟨a, vs, rfl, .inl (.inr ⟨o, fz_frz upd_same⟩), Reps.ext (ex o) _ _ z2⟩⟩
        | dic ks ws =>
          obtain ⟨vs, z1, z3, z2⟩ := m1.at_ a _ hm
          have ex : ∀ o, Ext H1 (upd H1 a (.frz o (.dK (ks.zip vs)))) := fun o => .put (by rw [z1]; trivial)
          exact ⟨a, _, rfl, z1, trivial, fun o => h4 (.dic ks ws) _ _ _ q (e1.trans (.del (by rw [z1]; trivial) (by rw [hm]; simp))) (mrep_del m1 hm z1) ⟨a, vs, o, rfl, upd_same, z3, Reps.ext (ex o) _ _ z2⟩⟩
        | ins C ns ws => exact q.elim
        | box I => exact q.elim
    | _ => exact q.elim⟩
/-- a list that is made and never changed -/
def dLst (t : DA) : DE := fun env s R => t env s fun ws s1 => ws.length ≤ 1000000 ∧ R (.lst ws) s1
theorem pd_lst {es : List Expr} {t : DA} {pos : Pos} (h : PDA X es t) : PD X (.List es pos) (dLst t) :=
  pe_imp (pe_frz (pe_lst h)) fun σ H Q ⟨env, s, R, h1, h2, h3, h4⟩ => ⟨env, s, _, h1, h2, h3, fun ws s1 vs H1 ⟨l, q⟩ e1 m1 r1 => ⟨by rw [← r1.len]; exact Nat.le_trans l mil, fun p hp =>
    ⟨p, _, rfl, upd_same, trivial, fun o => by
      rw [upd_upd]
      exact h4 (.lst ws) s1 (.ref p) _ q (e1.trans (.new hp)) (m1.new hp) ⟨p, vs, rfl, .inl (.inr ⟨o, fz_frz upd_same⟩), Reps.ext (.new hp) _ _ r1⟩⟩⟩⟩
end
end Dz
namespace Dz
open PySem PySem.Spec PyProof.Rows L2

/-! ### sequences, whether they may change or not -/
def asL (s : Sg) : D → Option (List D)
  | .lst ws => some ws
  | .ref a => (match s.M a with
    | some (.lst ws) => some ws
    | _ => none)
  | _ => none
def asT : D → Option (List D)
  | .tup ws => some ws
  | _ => none
def asQ (s : Sg) : D → Option (List D)
  | .tup ws => some ws
  | w => asL s w
theorem asL_sq {K : PySem.W.Frag} {H : Hp} {s : Sg} {w : D} {v : V} {ws : List D} (h : asL s w = some ws) (r : Rep K H w v) (m : MRep K H s) : ∃ a vs, v = .ref a ∧ SqL K H a vs ∧ Reps K H ws vs := by
  cases w with
  | lst us =>
    cases h
    obtain ⟨a, vs, e, f, q⟩ := r
    exact ⟨a, vs, e, f.sq, q⟩
  | ref a =>
    dsimp only [asL] at h
    cases hm : s.M a with
    | none => rw [hm] at h; cases h
    | some o =>
      rw [hm] at h
      cases o with
      | lst us =>
        cases h
        obtain ⟨vs, e, q⟩ := m.at_ a _ hm
        exact ⟨a, vs, r, .of e, q⟩
      | _ => cases h
  | _ => cases h
theorem asQ_sq {K : PySem.W.Frag} {H : Hp} {s : Sg} {w : D} {v : V} {ws : List D} (h : asQ s w = some ws) (r : Rep K H w v) (m : MRep K H s) : ∃ a vs, v = .ref a ∧ (SqL K H a vs ∨ SqT K H a vs) ∧ Reps K H ws vs := by
  cases w with
  | tup us =>
    cases h
    obtain ⟨a, vs, e, f, q⟩ := r
    exact ⟨a, vs, e, .inr f.1, q⟩
  | _ =>
    obtain ⟨a, vs, e, f, q⟩ := asL_sq (s := s) (ws := ws) (by simpa only [asQ] using h) r m
    exact ⟨a, vs, e, .inl f, q⟩
theorem asT_sq {K : PySem.W.Frag} {H : Hp} {w : D} {v : V} {ws : List D} (h : asT w = some ws) (r : Rep K H w v) : ∃ a vs, v = .ref a ∧ SqT K H a vs ∧ Reps K H ws vs := by
  cases w with
  | tup us => cases h; obtain ⟨a, vs, e, f, q⟩ := r; exact ⟨a, vs, e, f.1, q⟩
  | _ => cases h

/-! ### value relations, lifted -/
abbrev D1 := D → Sg → KD → Prop
abbrev D2 := D → D → Sg → KD → Prop
abbrev DL := List D → Sg → KD → Prop
def lift1 (K : PySem.W.Frag) (r : D1) : V → Hp → VK → Prop := fun x H Q => ∃ w s R, Rep K H w x ∧ MRep K H s ∧ r w s R ∧ Post K H s R Q
def lift2 (K : PySem.W.Frag) (r : D2) : R2 := fun x y H Q => ∃ w u s R, Rep K H w x ∧ Rep K H u y ∧ MRep K H s ∧ r w u s R ∧ Post K H s R Q
def liftL (K : PySem.W.Frag) (r : DL) : List V → Hp → VK → Prop := fun xs H Q => ∃ ws s R, Reps K H ws xs ∧ MRep K H s ∧ r ws s R ∧ Post K H s R Q
def dUn (r : D1) (ta : DE) : DE := fun env s R => ta env s fun x s1 => r x s1 R
def dOp (r : D2) (ta tb : DE) : DE := fun env s R => ta env s fun x s1 => tb env s1 fun y s2 => r x y s2 R
def dCB (r : DL) (ta : DA) : DE := fun env s R => ta env s fun xs s1 => r xs s1 R
section
variable {X : Cx} {pos : Pos} {a b : Expr} {ta tb : DE} {r : D2}
theorem op_imp {f : Value → Value → Sem Value} {r r' : R2} (h : OpR X f r) (hi : ∀ x y H Q, r' x y H Q → r x y H Q) : OpR X f r' := fun pins s σ H x y v u Q I rx ry q => h pins s σ H x y v u Q I rx ry (hi x y H Q q)
theorem dOp_imp (K : PySem.W.Frag) (r : D2) (ta tb : DE) : ∀ σ H Q, liftE K (dOp r ta tb) σ H Q → tOp (lift2 K r) (liftE K ta) (liftE K tb) σ H Q := fun σ H Q ⟨env, s, R, h1, h2, h3, h4⟩ =>
  ⟨env, s, _, h1, h2, h3, fun x s1 v H1 q e1 m1 r1 => ⟨env, s1, _, h1.ext e1.ext, m1, q, fun y s2 u H2 q2 e2 m2 r2 => ⟨x, y, s2, R, Rep.ext e2.ext _ _ r1, r2, m2, q2, h4.ext (e1.trans e2)⟩⟩⟩
theorem pd_op {op : Operator} (ho : OpR X (binaryOp op) (lift2 X.K r)) (ha : PD X a ta) (hb : PD X b tb) : PD X (.BinOp a op b pos) (dOp r ta tb) := pe_imp (pe_op ho ha hb) (dOp_imp X.K r ta tb)
theorem pd_cmp {op : CmpOp} (ho : OpR X (compareOp op) (lift2 X.K r)) (ha : PD X a ta) (hb : PD X b tb) (hm : behindInMarks op b = false) : PD X (.Compare a [op] [b] pos) (dOp r ta tb) := pe_imp (pe_cmpR ho ha hb hm) (dOp_imp X.K r ta tb)
/-- a test by a value that is a bool -/
def dB (t : DE) : DT := fun env s R => t env s fun w s1 => match w with
  | .bl b => R b s1
  | _ => False
theorem pdt_val {e : Expr} {t : DE} (h : PD X e t) (he : ∀ whole, isTrue e X.env whole = (do let v ← whole; standAt e.pos; holding [v] (truthy v)) := by intro _; rfl) : PDT X e (dB t) :=
  pt_imp (pt_val h he) fun σ H Q ⟨env, s, R, h1, h2, h3, h4⟩ => ⟨env, s, _, h1, h2, h3, fun w s1 v H1 q e1 m1 r1 => by
    cases w with
    | bl b => exact ⟨b, r1, h4 b s1 H1 q e1 m1⟩
    | _ => exact q.elim⟩
theorem pdt_cmp {op : CmpOp} (ho : OpR X (compareOp op) (lift2 X.K r)) (ha : PD X a ta) (hb : PD X b tb) (hm : behindInMarks op b = false) : PDT X (.Compare a [op] [b] pos) (dB (dOp r ta tb)) :=
  pt_imp (pt_cmpR ho ha hb hm) fun σ H Q ⟨env, s, R, h1, h2, h3, h4⟩ => dOp_imp X.K r ta tb σ H _ ⟨env, s, _, h1, h2, h3, fun w s1 v H1 q e1 m1 r1 => by
    cases w with
    | bl b => exact ⟨b, r1, h4 b s1 H1 q e1 m1⟩
    | _ => exact q.elim⟩
/-- not, and, or in tests -/
def dNot (t : DT) : DT := fun env s R => t env s fun c s1 => R (!c) s1
def dAnd (t u : DT) : DT := fun env s R => t env s fun c s1 => if c = true then u env s1 R else R false s1
def dOr (t u : DT) : DT := fun env s R => t env s fun c s1 => if c = true then R true s1 else u env s1 R
theorem pdt_not {e : Expr} {t : DT} (h : PDT X e t) : PDT X (.UnaryOp .Not e pos) (dNot t) :=
  pt_imp (pt_not h) fun σ H Q ⟨env, s, R, h1, h2, h3, h4⟩ => ⟨env, s, _, h1, h2, h3, fun c s1 H1 q e1 m1 => h4 (!c) s1 H1 q e1 m1⟩
theorem pdw_and1 {t : DT} (h : PDT X a t) : PDW X (.BoolOp .And [a] pos) t := pw_and1 h
theorem pdw_or1 {t : DT} (h : PDT X a t) : PDW X (.BoolOp .Or [a] pos) t := pw_or1 h
theorem pdw_and {rest : List Expr} {t u : DT} (h : PDT X a t) (hb : PDW X (.BoolOp .And (b :: rest) pos) u) : PDW X (.BoolOp .And (a :: b :: rest) pos) (dAnd t u) :=
  pw_imp (pw_and h hb) fun σ H Q ⟨env, s, R, h1, h2, h3, h4⟩ => ⟨env, s, _, h1, h2, h3, fun c s1 H1 q e1 m1 => by
    cases c with
    | true => rw [if_pos rfl] at q ⊢; exact ⟨env, s1, R, h1.ext e1.ext, m1, q, h4.ext e1⟩
    | false => rw [if_neg Bool.false_ne_true] at q ⊢; exact h4 false s1 H1 q e1 m1⟩
theorem pdw_or {rest : List Expr} {t u : DT} (h : PDT X a t) (hb : PDW X (.BoolOp .Or (b :: rest) pos) u) : PDW X (.BoolOp .Or (a :: b :: rest) pos) (dOr t u) :=
  pw_imp (pw_or h hb) fun σ H Q ⟨env, s, R, h1, h2, h3, h4⟩ => ⟨env, s, _, h1, h2, h3, fun c s1 H1 q e1 m1 => by
    cases c with
    | true => rw [if_pos rfl] at q ⊢; exact h4 true s1 H1 q e1 m1
    | false => rw [if_neg Bool.false_ne_true] at q ⊢; exact ⟨env, s1, R, h1.ext e1.ext, m1, q, h4.ext e1⟩⟩
theorem pdw_t {e : Expr} {t : DT} (h : PDW X e t) : PDT X e t := h.pt
/-- and, or, not as values of bools -/
def dAndV (t u : DE) : DE := fun env s R => t env s fun w s1 => match w with
  | .bl c => if c = true then u env s1 R else R (.bl false) s1
  | _ => False
def dOrV (t u : DE) : DE := fun env s R => t env s fun w s1 => match w with
  | .bl c => if c = true then R (.bl true) s1 else u env s1 R
  | _ => False
def dNotV (t : DE) : DE := fun env s R => t env s fun w s1 => match w with
  | .bl c => R (.bl (!c)) s1
  | _ => False
theorem pd_one {op} {t : DE} (h : PD X a t) : PD X (.BoolOp op [a] pos) t := pe_one h
theorem pd_and {rest : List Expr} (ha : PD X a ta) (hb : PD X (.BoolOp .And (b :: rest) pos) tb) : PD X (.BoolOp .And (a :: b :: rest) pos) (dAndV ta tb) :=
  pe_imp (pe_and ha hb) fun σ H Q ⟨env, s, R, h1, h2, h3, h4⟩ => ⟨env, s, _, h1, h2, h3, fun w s1 v H1 q e1 m1 r1 => by
    cases w with
    | bl c =>
      refine ⟨c, r1, ?_⟩
      dsimp only at q
      cases c with
      | true => rw [if_pos rfl] at q ⊢; exact ⟨env, s1, R, h1.ext e1.ext, m1, q, h4.ext e1⟩
      | false => rw [if_neg Bool.false_ne_true] at q ⊢; exact h4 (.bl false) s1 _ H1 q e1 m1 rfl
    | _ => exact q.elim⟩
theorem pd_or {rest : List Expr} (ha : PD X a ta) (hb : PD X (.BoolOp .Or (b :: rest) pos) tb) : PD X (.BoolOp .Or (a :: b :: rest) pos) (dOrV ta tb) :=
  pe_imp (pe_or ha hb) fun σ H Q ⟨env, s, R, h1, h2, h3, h4⟩ => ⟨env, s, _, h1, h2, h3, fun w s1 v H1 q e1 m1 r1 => by
    cases w with
    | bl c =>
      refine ⟨c, r1, ?_⟩
      dsimp only at q
      cases c with
      | true => rw [if_pos rfl] at q ⊢; exact h4 (.bl true) s1 _ H1 q e1 m1 rfl
      | false => rw [if_neg Bool.false_ne_true] at q ⊢; exact ⟨env, s1, R, h1.ext e1.ext, m1, q, h4.ext e1⟩
    | _ => exact q.elim⟩
theorem pd_not (ha : PD X a ta) : PD X (.UnaryOp .Not a pos) (dNotV ta) :=
  pe_imp (pe_not ha) fun σ H Q ⟨env, s, R, h1, h2, h3, h4⟩ => ⟨env, s, _, h1, h2, h3, fun w s1 v H1 q e1 m1 r1 => by
    cases w with
    | bl c => exact ⟨c, r1, h4 (.bl (!c)) s1 _ H1 q e1 m1 rfl⟩
    | _ => exact q.elim⟩
def dIfE (t : DT) (ta tb : DE) : DE := fun env s R => t env s fun c s1 => if c = true then ta env s1 R else tb env s1 R
theorem pd_ifExp {c : Expr} {t : DT} (hc : PDT X c t) (ha : PD X a ta) (hb : PD X b tb) : PD X (.IfExp c a b pos) (dIfE t ta tb) :=
  pe_imp (pe_ifExp hc ha hb) fun σ H Q ⟨env, s, R, h1, h2, h3, h4⟩ => ⟨env, s, _, h1, h2, h3, fun c s1 H1 q e1 m1 => by
    cases c with
    | true => rw [if_pos rfl] at q ⊢; exact ⟨env, s1, R, h1.ext e1.ext, m1, q, h4.ext e1⟩
    | false => rw [if_neg Bool.false_ne_true] at q ⊢; exact ⟨env, s1, R, h1.ext e1.ext, m1, q, h4.ext e1⟩⟩
end

/-! ### a new list -/
def tNew (ta : TA) : TE := fun σ H Q => ta σ H fun vs H1 => ∀ p, H1 p = none → Q (.ref p) (upd H1 p (.lst vs))
abbrev PNL (X : Cx) (e : Expr) (t : DA) : Prop := PE X e (tNew (liftA X.K t))
def dF (t : DA) : DE := fun env s R => t env s fun ws s1 => R (.lst ws) s1
def dM (t : DA) : DE := fun env s R => t env s fun ws s1 => ∀ p, s1.M p = none → R (.ref p) (s1.put p (.lst ws))
section
variable {X : Cx} {pos : Pos} {e : Expr} {t : DA}
theorem pd_F (h : PNL X e t) : PD X e (dF t) :=
  pe_imp (pe_frz h) fun σ H Q ⟨env, s, R, h1, h2, h3, h4⟩ => ⟨env, s, _, h1, h2, h3, fun ws s1 vs H1 q e1 m1 r1 p hp => ⟨p, _, rfl, upd_same, trivial, fun o => by
    rw [upd_upd]
    exact h4 (.lst ws) s1 (.ref p) _ q (e1.trans (.new hp)) (m1.new hp) ⟨p, vs, rfl, .inl (.inr ⟨o, fz_frz upd_same⟩), Reps.ext (.new hp) _ _ r1⟩⟩⟩
theorem pd_M (h : PNL X e t) : PD X e (dM t) :=
  pe_imp h fun σ H Q ⟨env, s, R, h1, h2, h3, h4⟩ => ⟨env, s, _, h1, h2, h3, fun ws s1 vs H1 q e1 m1 r1 p hp =>
    h4 (.ref p) _ (.ref p) _ (q p (m1.free hp)) (e1.trans (.put (.inl hp))) (m1.write (.inl hp) (fun _ => nofun) ⟨vs, upd_same, Reps.ext (.new hp) _ _ r1⟩) rfl⟩
def dSz (t : DA) : DA := fun env s R => t env s fun ws s1 => ws.length ≤ 1000000 ∧ R ws s1
theorem nl_lst {es : List Expr} (h : PDA X es t) : PNL X (.List es pos) (dSz t) :=
  pe_imp (pe_lst h) fun σ H Q ⟨env, s, R, h1, h2, h3, h4⟩ => ⟨env, s, _, h1, h2, h3, fun ws s1 vs H1 ⟨l, q⟩ e1 m1 r1 => ⟨by rw [← r1.len]; exact Nat.le_trans l mil, fun p hp => h4 ws s1 vs H1 q e1 m1 r1 p hp⟩⟩
end

/-! ### deep data -/
mutual
def toPy : D → Option PyData
  | .non => some .none
  | .bl b => some (.bool b)
  | .int i => some (.int i)
  | .str x => some (.str x)
  | .tup ws => (toPys ws).map PyData.tuple
  | .lst ws => (toPys ws).map PyData.list
  | .dic _ _ => none
  | .ref _ => none
  | .ty _ => none
  | .exc _ _ _ _ => none
def toPys : List D → Option (List PyData)
  | [] => some []
  | w :: ws => (toPy w).bind fun d => (toPys ws).map fun ds => d :: ds
end
mutual
theorem Rep.dp {K : PySem.W.Frag} {H : Hp} : ∀ (w : D) (v : V) (d : PyData), toPy w = some d → Rep K H w v → Dp K H v d
  | .non, v, d, h, r => by cases h; cases (show v = .non from r); exact .non
  | .bl b, v, d, h, r => by cases h; cases (show v = .bl b from r); exact .bl b
  | .int i, v, d, h, r => by cases h; cases (show v = .int i from r); exact .int i
  | .str x, v, d, h, r => by cases h; cases (show v = .str x from r); exact .str x
  | .tup ws, v, d, h, r => by
    obtain ⟨a, vs, rfl, f, q⟩ := r
    unfold toPy at h
    obtain ⟨ds, e, rfl⟩ := Option.map_eq_some_iff.mp h
    exact .tup f.1 (Reps.dp ws vs ds e q)
  | .lst ws, v, d, h, r => by
    obtain ⟨a, vs, rfl, f, q⟩ := r
    unfold toPy at h
    obtain ⟨ds, e, rfl⟩ := Option.map_eq_some_iff.mp h
    exact .lst f.sq (Reps.dp ws vs ds e q)
  | .dic _ _, v, d, h, r => by cases h
  | .ref _, v, d, h, r => by cases h
  | .ty _, v, d, h, r => by cases h
  | .exc _ _ _ _, v, d, h, r => by cases h
theorem Reps.dp {K : PySem.W.Frag} {H : Hp} : ∀ (ws : List D) (vs : List V) (ds : List PyData), toPys ws = some ds → Reps K H ws vs → DpAll K H vs ds
  | [], vs, ds, h, r => by cases h; cases (show vs = [] from r); exact .nil
  | w :: ws, vs, ds, h, r => by
    obtain ⟨v, q, rfl, r1, r2⟩ := r
    unfold toPys at h
    obtain ⟨d, e1, h⟩ := Option.bind_eq_some_iff.mp h
    obtain ⟨es, e2, rfl⟩ := Option.map_eq_some_iff.mp h
    exact .cons (Rep.dp w v d e1 r1) (Reps.dp ws q es e2 r2)
end
def pyOf (s : Sg) : D → Option PyData
  | .ref a => (match s.M a with
    | some (.lst ws) => (toPys ws).map PyData.list
    | _ => none)
  | w => toPy w
theorem pyOf_dp {K : PySem.W.Frag} {H : Hp} {s : Sg} {w : D} {v : V} {d : PyData} (h : pyOf s w = some d) (r : Rep K H w v) (m : MRep K H s) : Dp K H v d := by
  cases w with
  | ref a =>
    dsimp only [pyOf] at h
    cases hm : s.M a with
    | none => rw [hm] at h; cases h
    | some o =>
      rw [hm] at h
      cases o with
      | lst us =>
        obtain ⟨ds, e, rfl⟩ := Option.map_eq_some_iff.mp h
        obtain ⟨vs, e1, q⟩ := m.at_ a _ hm
        cases (show v = .ref a from r)
        exact .lst (.of e1) (Reps.dp us vs ds e q)
      | _ => cases h
  | _ => exact Rep.dp _ v d h r

/-! ### operators -/
section
variable {X : Cx}
/-- t + u, t[lo:hi]: a new tuple is locked at once -/
def rCatN (K : PySem.W.Frag) : R2 := fun x y H Q => ∃ a b xs ys, x = .ref a ∧ y = .ref b ∧ SqT K H a xs ∧ SqT K H b ys ∧ xs.length + ys.length ≤ sizeLine ∧
  (xs = [] → Q (.ref b) H) ∧ (xs ≠ [] → ys = [] → Q (.ref a) H) ∧ (xs ≠ [] → ys ≠ [] → ∀ (p : Addr) (o : Obj), H p = none → o.dict = none → Q (.ref p) (upd H p (.frz o (.tup (xs ++ ys)))))
theorem op_catN : OpR X (binaryOp .Add) (rCatN X.K) := by
  intro pins s σ H x y v u Q I rx ry h
  obtain ⟨a, b, xs, ys, rfl, rfl, ha, hb, hz, q0, q1, q2⟩ := h
  cases rx
  cases ry
  obtain ⟨its, r1, p1, _⟩ := I.tuple ha
  obtain ⟨its2, r2, p2, _⟩ := I.tuple hb
  by_cases hx : xs = []
  · subst hx
    cases r1
    exact cat_tup0 p1 p2 ⟨.ref b, H, I, rfl, q0 rfl⟩
  · refine HT.cat_tup p1 p2 (fun z => hx (r1.nil_iff.mp z)) (fun z => ⟨.ref a, H, I, rfl, q1 hx (r2.nil_iff.mp z)⟩) (fun z => ?_) (by rw [← r1.length, ← r2.length]; exact hz)
    refine ⟨.ref s.heap.objs.size, _, I.laid (t' := s.toks) (o := .frz { cls := .type "tuple", data := .seq (its ++ its2).toArray } (.tup (xs ++ ys))) (fun b ob q => Heap.get?_push_of_some _ q) (Nat.le_refl _) ?_, rfl, q2 hx (fun w => z (r2.nil_iff.mpr w)) _ _ (I.hok.fresh (Nat.le_refl _)) rfl⟩
    exact ⟨Heap.get?_push_size _ rfl, by rw [List.length_append]; exact hz, _, r1.append r2, IsTup.new _ _⟩
def rSlN (K : PySem.W.Frag) : V → Option Int → Option Int → Hp → VK → Prop := fun x lo hi H Q => ∃ a xs, x = .ref a ∧ SqT K H a xs ∧
  (HT.sIx xs.length 0 lo = 0 ∧ HT.sIx xs.length xs.length hi = xs.length → Q (.ref a) H) ∧ (¬ (HT.sIx xs.length 0 lo = 0 ∧ HT.sIx xs.length xs.length hi = xs.length) → ∀ (p : Addr) (o : Obj), H p = none → o.dict = none → Q (.ref p) (upd H p (.frz o (.tup (cutV xs lo hi)))))
theorem sl_tupN : SlR X (rSlN X.K) := by
  intro pins s σ H x v vl vu lo hi sl Q I rx hs pl pu h
  obtain ⟨a, xs, rfl, hx, q1, q2⟩ := h
  cases rx
  obtain ⟨its, r, ht, hz⟩ := I.tuple hx
  have hlen : its.toArray.size = xs.length := by rw [List.size_toArray]; exact r.length.symm
  refine ⟨"tuple", _, PyProof.Rows.slot_tuple_getitem.lookup, ht.typeIs, ?_⟩
  by_cases hw : HT.sIx xs.length 0 lo = 0 ∧ HT.sIx xs.length xs.length hi = xs.length
  · exact getItem_tuple_whole ht hs pl pu (by rw [hlen]; exact hw) ⟨.ref a, H, I, rfl, q1 hw⟩
  · refine HT.getItem_tuple_cut ht hs pl pu (by rw [hlen]; exact hw) ?_ (by rw [hlen]; exact hz)
    rw [hlen]
    refine ⟨.ref s.heap.objs.size, _, I.laid (t' := s.toks) (o := .frz _ (.tup (cutV xs lo hi))) (fun b ob q => Heap.get?_push_of_some _ q) (Nat.le_refl _) ⟨Heap.get?_push_size _ rfl, Nat.le_trans (cutV_length xs lo hi) hz, _, (r.drop (HT.sIx xs.length 0 lo)).take (HT.sIx xs.length xs.length hi - HT.sIx xs.length 0 lo), IsTup.new _ _⟩, rfl, q2 hw _ _ (I.hok.fresh (Nat.le_refl _)) rfl⟩
theorem call_tupleN : CallR X (.type "tuple") (fun xs H Q => ∃ p ys, xs = [.ref p] ∧ ((SqL X.K H p ys ∧ ∀ (l : Addr) (o : Obj), H l = none → o.dict = none → Q (.ref l) (upd H l (.frz o (.tup ys)))) ∨ (SqT X.K H p ys ∧ Q (.ref p) H))) := by
  intro pins s σ H xs us Q I r h
  obtain ⟨p, ys, rfl, h⟩ := h
  obtain ⟨u, rfl, rx⟩ := vals1 r
  cases rx
  rcases h with ⟨hq, q⟩ | ⟨hq, q⟩
  · obtain ⟨its, r', pl, hz⟩ := I.list hq
    have hlen := r'.length
    refine call_tuple_list pl.isList (fun h' kp => ?_) (by simp only [List.size_toArray] <;> omega)
    have I1 : Inv X pins σ H { s with heap := h' } := I.kept (t' := s.toks) kp
    have I2 : Inv X pins σ (upd H h'.objs.size (.frz { cls := .type "tuple", data := .seq its.toArray } (.tup ys))) { s with heap := h'.push { cls := .type "tuple", data := .seq its.toArray } } :=
      I1.laid (t' := s.toks) (fun b o e => Heap.get?_push_of_some _ e) (Nat.le_refl _) (show ObjOk X.prog X.w _ _ _ (.frz _ (.tup ys)) from ⟨Heap.get?_push_size _ rfl, hz, its, r', IsTup.new _ _⟩)
    exact ⟨.ref h'.objs.size, _, I2, rfl, q _ _ (I1.hok.fresh (Nat.le_refl _)) rfl⟩
  · obtain ⟨its, r', pl, hz⟩ := I.tuple hq
    exact call_tuple_same pl ⟨.ref p, H, I, rfl, q⟩
/-- a + b -/
def rAdd : D2 := fun x y s R => match x, y with
  | .int i, .int j => R (.int (i + j)) s
  | .str a, .str b => a.length + b.length ≤ 1000000 ∧ R (.str (a ++ b)) s
  | .tup a, .tup b => a.length + b.length ≤ 1000000 ∧ R (.tup (a ++ b)) s
  | _, _ => False
theorem od_add : OpR X (binaryOp .Add) (lift2 X.K rAdd) := by
  refine op_imp ((op_add.or op_add_str).or op_catN) fun x y H Q ⟨w, u, s, R, r1, r2, m, h, p⟩ => ?_
  unfold rAdd at h
  split at h
  · rename_i i j
    exact .inl (.inl ⟨i, j, r1, r2, p _ _ _ _ h (.refl _ _) m rfl⟩)
  · rename_i a b
    exact .inl (.inr ⟨a, b, r1, r2, Nat.le_trans h.1 mil, p _ _ _ _ h.2 (.refl _ _) m rfl⟩)
  · rename_i ws us
    obtain ⟨a, vs, rfl, f1, q1⟩ := r1
    obtain ⟨b, ts, rfl, f2, q2⟩ := r2
    have hl : vs.length + ts.length ≤ sizeLine := by rw [← q1.len, ← q2.len]; exact Nat.le_trans h.1 mil
    refine .inr ⟨a, b, vs, ts, rfl, rfl, f1.1, f2.1, hl, fun e => ?_, fun _ e => ?_, fun _ _ q o hq ho => ?_⟩
    · subst e
      have e0 : ws = [] := List.length_eq_zero_iff.mp q1.len
      subst e0
      exact p _ _ _ _ h.2 (.refl _ _) m ⟨b, ts, rfl, f2, q2⟩
    · subst e
      have e0 : us = [] := List.length_eq_zero_iff.mp q2.len
      subst e0
      exact p _ _ _ _ h.2 (.refl _ _) m ⟨a, vs, rfl, f1, by rw [List.append_nil]; exact q1⟩
    · exact p _ _ _ _ h.2 (.new hq) (m.new hq) ⟨q, vs ++ ts, rfl, .new ho, Reps.ext (.new hq) _ _ (q1.append q2)⟩
  · exact h.elim
/-- lists: a + b, a new list -/
def rCatS (K : PySem.W.Frag) : R2 := fun x y H Q => ∃ l b xs zs, x = .ref l ∧ y = .ref b ∧ SqL K H l xs ∧ SqL K H b zs ∧ xs.length + zs.length ≤ sizeLine ∧ ∀ p, H p = none → Q (.ref p) (upd H p (.lst (xs ++ zs)))
theorem op_catS : OpR X (binaryOp .Add) (rCatS X.K) := by
  intro pins s σ H x y v u Q I rx ry h
  obtain ⟨l, b, xs, zs, rfl, rfl, hl, hb, hz, q⟩ := h
  cases rx
  cases ry
  obtain ⟨its, r1, ⟨⟨c1, d1, t1, s1⟩, n1, e1, k1, k2, k3⟩, z1⟩ := I.list hl
  obtain ⟨jts, r2, ⟨⟨c2, d2, t2, s2⟩, n2, e2, j1, j2, j3⟩, z2⟩ := I.list hb
  simp only at k1 k2 k3 j1 j2 j3
  subst k1 k2 k3 j1 j2 j3
  have le : its.toArray.size + jts.toArray.size ≤ sizeLine := by rw [List.size_toArray, List.size_toArray, ← r1.length, ← r2.length]; exact hz
  refine concat_meets ⟨_, e1, rfl⟩ ⟨_, e2, rfl⟩ noFill_list_add seq_list_add PySem.F.slot_list_add PySem.F.entry_list_add (PySem.F.args_list_add_2 _ _) (list_addW l b its.toArray jts.toArray n1 n2 none none s1 s2 le) ⟨e1, e2, ?_⟩
  rw [show its.toArray ++ jts.toArray = (its ++ jts).toArray by simp]
  exact ⟨.ref _, _, I.lnew (t' := s.toks) (r1.append r2) (by rw [List.length_append]; exact hz), rfl, q _ I.fresh⟩
def dCat (ta tb : DE) : DA := fun env s R => ta env s fun x s1 => tb env s1 fun y s2 => match asL s2 x, asL s2 y with
  | some a, some b => a.length + b.length ≤ 1000000 ∧ R (a ++ b) s2
  | _, _ => False
theorem nl_cat {a b : Expr} {ta tb : DE} {pos : Pos} (ha : PD X a ta) (hb : PD X b tb) : PNL X (.BinOp a .Add b pos) (dCat ta tb) :=
  pe_imp (pe_op op_catS ha hb) fun σ H Q ⟨env, s, R, h1, h2, h3, h4⟩ => ⟨env, s, _, h1, h2, h3, fun x s1 v H1 q e1 m1 r1 => ⟨env, s1, _, h1.ext e1.ext, m1, q, fun y s2 u H2 q2 e2 m2 r2 => by
    split at q2
    · rename_i as bs ea eb
      obtain ⟨l, vs, rfl, f1, g1⟩ := asL_sq ea (Rep.ext e2.ext _ _ r1) m2
      obtain ⟨l2, ts, rfl, f2, g2⟩ := asL_sq eb r2 m2
      exact ⟨l, l2, vs, ts, rfl, rfl, f1, f2, by rw [← g1.len, ← g2.len]; exact Nat.le_trans q2.1 mil, fun p hp => h4 (as ++ bs) s2 (vs ++ ts) H2 q2.2 (e1.trans e2) m2 (g1.append g2) p hp⟩
    · exact q2.elim⟩⟩
/-- ints -/
def rI (C : Int → Int → Prop) (g : Int → Int → Int) : D2 := fun x y s R => match x, y with
  | .int i, .int j => C i j ∧ R (.int (g i j)) s
  | _, _ => False
theorem od_I {f : Value → Value → Sem Value} {C : Int → Int → Prop} {g : Int → Int → Int} (h : OpR X f (L2.rI C fun i j => .int (g i j))) : OpR X f (lift2 X.K (rI C g)) :=
  op_imp h fun x y H Q ⟨w, u, s, R, r1, r2, m, h, p⟩ => by
    unfold rI at h
    split at h
    · rename_i i j
      exact ⟨i, j, r1, r2, h.1, p _ _ _ _ h.2 (.refl _ _) m rfl⟩
    · exact h.elim
theorem od_I0 {f : Value → Value → Sem Value} {g : Int → Int → Int} (h : OpR X f (L2.rI0 fun i j => .int (g i j))) : OpR X f (lift2 X.K (rI (fun _ _ => True) g)) :=
  op_imp h fun x y H Q ⟨w, u, s, R, r1, r2, m, h, p⟩ => by
    unfold rI at h
    split at h
    · rename_i i j
      exact ⟨i, j, r1, r2, p _ _ _ _ h.2 (.refl _ _) m rfl⟩
    · exact h.elim
theorem od_sub : OpR X (binaryOp .Sub) (lift2 X.K (rI (fun _ _ => True) fun i j => i - j)) := od_I0 op_sub
theorem od_mul : OpR X (binaryOp .Mult) (lift2 X.K (rI CMul fun i j => i * j)) := od_I op_mul
theorem od_fdiv : OpR X (binaryOp .FloorDiv) (lift2 X.K (rI CDiv fun i j => i / j)) := od_I op_fdiv
theorem od_mod : OpR X (binaryOp .Mod) (lift2 X.K (rI (fun _ j => 0 < j) fun i j => i % j)) := od_I op_mod
theorem od_pow : OpR X (binaryOp .Pow) (lift2 X.K (rI CPow fun i j => i ^ j.toNat)) := od_I op_pow
/-- xs * k: xs a list that may change -/
def dRep (ta tb : DE) : DA := fun env s R => ta env s fun x s1 => tb env s1 fun y s2 => match x, y with
  | .ref l, .int k => (match s2.M l with
    | some (.lst ws) => -1000000 ≤ k ∧ k ≤ 1000000 ∧ ws.length * k.toNat ≤ 1000000 ∧ R (List.replicate k.toNat ws).flatten (s2.del l)
    | _ => False)
  | _, _ => False
theorem Reps.rep {K : PySem.W.Frag} {H : Hp} {ws : List D} {vs : List V} (h : Reps K H ws vs) : ∀ k : Nat, Reps K H (List.replicate k ws).flatten (List.replicate k vs).flatten
  | 0 => rfl
  | k + 1 => by rw [List.replicate_succ, List.replicate_succ, List.flatten_cons, List.flatten_cons]; exact h.append (Reps.rep h k)
theorem nl_rep {a b : Expr} {ta tb : DE} {pos : Pos} (ha : PD X a ta) (hb : PD X b tb) : PNL X (.BinOp a .Mult b pos) (dRep ta tb) :=
  pe_imp (pe_op op_rep ha hb) fun σ H Q ⟨env, s, R, h1, h2, h3, h4⟩ => ⟨env, s, _, h1, h2, h3, fun x s1 v H1 q e1 m1 r1 => ⟨env, s1, _, h1.ext e1.ext, m1, q, fun y s2 u H2 q2 e2 m2 r2 => by
    split at q2
    · rename_i l k
      cases (show v = .ref l from r1)
      cases (show u = .int k from r2)
      cases hm : s2.M l with
      | none => rw [hm] at q2; exact q2.elim
      | some o =>
        rw [hm] at q2
        cases o with
        | lst ws =>
          obtain ⟨vs, z1, z2⟩ := m2.at_ l _ hm
          obtain ⟨c1, c2, c3, c4⟩ := q2
          refine ⟨l, k, vs, rfl, rfl, z1, by omega, by omega, by rw [← z2.len]; exact Nat.le_trans c3 mil, fun p hp => h4 _ _ _ H2 c4 ((e1.trans e2).trans (.weak (fun b u e => ?_) rfl)) (m2.weak (fun b u e => ?_) (Nat.le_refl _) rfl) (z2.rep _) p hp⟩
          all_goals
            by_cases hb : b = l
            · subst hb; rw [show (s2.del b).M b = none from Mm.del_same] at e; cases e
            · rw [show (s2.del l).M b = s2.M b from Mm.del_ne hb] at e; exact e
        | _ => exact q2.elim
    · exact q2.elim⟩⟩

/-! ### comparisons -/
def rCmp (pi : Int → Int → Bool) (ps : List Nat → List Nat → Bool) : D2 := fun x y s R => match x, y with
  | .int i, .int j => R (.bl (pi i j)) s
  | .str a, .str b => R (.bl (ps a.cps.toList b.cps.toList)) s
  | _, _ => False
theorem od_lt : OpR X (compareOp .Lt) (lift2 X.K (rCmp (fun i j => decide (i < j)) fun a b => decide (a < b))) := by
  refine op_imp (op_lt.or op_lt_str) fun x y H Q ⟨w, u, s, R, r1, r2, m, h, p⟩ => ?_
  unfold rCmp at h
  split at h
  · exact .inl ⟨_, _, r1, r2, p _ _ _ _ h (.refl _ _) m rfl⟩
  · exact .inr ⟨_, _, r1, r2, p _ _ _ _ h (.refl _ _) m rfl⟩
  · exact h.elim
theorem od_le : OpR X (compareOp .LtE) (lift2 X.K (rCmp (fun i j => decide (i ≤ j)) fun a b => !decide (b < a))) := by
  refine op_imp (op_le.or op_le_str) fun x y H Q ⟨w, u, s, R, r1, r2, m, h, p⟩ => ?_
  unfold rCmp at h
  split at h
  · exact .inl ⟨_, _, r1, r2, p _ _ _ _ h (.refl _ _) m rfl⟩
  · exact .inr ⟨_, _, r1, r2, p _ _ _ _ h (.refl _ _) m rfl⟩
  · exact h.elim
theorem od_gt : OpR X (compareOp .Gt) (lift2 X.K (rCmp (fun i j => decide (j < i)) fun a b => decide (b < a))) := by
  refine op_imp (op_gt.or op_gt_str) fun x y H Q ⟨w, u, s, R, r1, r2, m, h, p⟩ => ?_
  unfold rCmp at h
  split at h
  · exact .inl ⟨_, _, r1, r2, p _ _ _ _ h (.refl _ _) m rfl⟩
  · exact .inr ⟨_, _, r1, r2, p _ _ _ _ h (.refl _ _) m rfl⟩
  · exact h.elim
theorem od_ge : OpR X (compareOp .GtE) (lift2 X.K (rCmp (fun i j => decide (j ≤ i)) fun a b => !decide (a < b))) := by
  refine op_imp (op_ge.or op_ge_str) fun x y H Q ⟨w, u, s, R, r1, r2, m, h, p⟩ => ?_
  unfold rCmp at h
  split at h
  · exact .inl ⟨_, _, r1, r2, p _ _ _ _ h (.refl _ _) m rfl⟩
  · exact .inr ⟨_, _, r1, r2, p _ _ _ _ h (.refl _ _) m rfl⟩
  · exact h.elim
/-- == of deep data; of two ints, two texts, two bools plainly -/
def rEqv (g : Bool → Bool) : D2 := fun x y s R => match x, y with
  | .int i, .int j => R (.bl (g (decide (i = j)))) s
  | .str i, .str j => R (.bl (g (decide (i = j)))) s
  | .bl i, .bl j => R (.bl (g (decide (i = j)))) s
  | x, y => (match pyOf s x, pyOf s y with
    | some d, some e => SeqAt.shaped d = true ∧ SeqAt.shaped e = true ∧ R (.bl (g (PyData.eqv d e))) s
    | _, _ => False)
theorem od_eq (hu : X.A.units + 64 < cLine) : OpR X (compareOp .Eq) (lift2 X.K (rEqv id)) := by
  refine op_imp (op_eq.or (op_eqD hu)) fun x y H Q ⟨w, u, s, R, r1, r2, m, h, p⟩ => ?_
  unfold rEqv at h
  split at h
  · cases r1; cases r2; exact .inl ⟨rfl, by rw [dec_int, Bool.beq_eq_decide_eq]; exact p _ _ _ _ h (.refl _ _) m rfl⟩
  · cases r1; cases r2; exact .inl ⟨rfl, by rw [dec_str, Bool.beq_eq_decide_eq]; exact p _ _ _ _ h (.refl _ _) m rfl⟩
  · cases r1; cases r2; exact .inl ⟨rfl, by rw [dec_bl, Bool.beq_eq_decide_eq]; exact p _ _ _ _ h (.refl _ _) m rfl⟩
  · split at h
    · rename_i d e hd he
      exact .inr ⟨d, e, pyOf_dp hd r1 m, pyOf_dp he r2 m, h.1, h.2.1, p _ _ _ _ h.2.2 (.refl _ _) m rfl⟩
    · exact h.elim
theorem od_ne (hu : X.A.units + 64 < cLine) : OpR X (compareOp .NotEq) (lift2 X.K (rEqv (!·))) := by
  refine op_imp (op_ne.or (op_neD hu)) fun x y H Q ⟨w, u, s, R, r1, r2, m, h, p⟩ => ?_
  unfold rEqv at h
  split at h
  · cases r1; cases r2; exact .inl ⟨rfl, by rw [dec_int, Bool.beq_eq_decide_eq]; exact p _ _ _ _ h (.refl _ _) m rfl⟩
  · cases r1; cases r2; exact .inl ⟨rfl, by rw [dec_str, Bool.beq_eq_decide_eq]; exact p _ _ _ _ h (.refl _ _) m rfl⟩
  · cases r1; cases r2; exact .inl ⟨rfl, by rw [dec_bl, Bool.beq_eq_decide_eq]; exact p _ _ _ _ h (.refl _ _) m rfl⟩
  · split at h
    · rename_i d e hd he
      exact .inr ⟨d, e, pyOf_dp hd r1 m, pyOf_dp he r2 m, h.1, h.2.1, p _ _ _ _ h.2.2 (.refl _ _) m rfl⟩
    · exact h.elim
def isNon : D → Bool
  | .non => true
  | _ => false
theorem isNon_rep {K : PySem.W.Frag} {H : Hp} {w : D} {v : V} (r : Rep K H w v) : decide (v = .non) = isNon w := by
  cases w with
  | non => cases r; rfl
  | bl _ => cases r; rfl
  | int _ => cases r; rfl
  | str _ => cases r; rfl
  | tup _ => obtain ⟨a, vs, rfl, _⟩ := r; rfl
  | lst _ => obtain ⟨a, vs, rfl, _⟩ := r; rfl
  | dic _ _ => obtain ⟨a, vs, o, rfl, _⟩ := r; rfl
  | ref _ => cases r; rfl
  | ty _ => cases r; rfl
  | exc _ _ _ _ => obtain ⟨rfl, _⟩ := r; rfl
def rIsN (g : Bool → Bool) : D2 := fun x y s R => match y with
  | .non => R (.bl (g (isNon x))) s
  | _ => False
theorem od_is : OpR X (compareOp .Is) (lift2 X.K (rIsN id)) := by
  refine op_imp op_isN fun x y H Q ⟨w, u, s, R, r1, r2, m, h, p⟩ => ?_
  unfold rIsN at h
  split at h
  · exact ⟨r2, by rw [isNon_rep r1]; exact p _ _ _ _ h (.refl _ _) m rfl⟩
  · exact h.elim
theorem od_isnot : OpR X (compareOp .IsNot) (lift2 X.K (rIsN (!·))) := by
  refine op_imp op_notN fun x y H Q ⟨w, u, s, R, r1, r2, m, h, p⟩ => ?_
  unfold rIsN at h
  split at h
  · exact ⟨r2, by rw [isNon_rep r1]; exact p _ _ _ _ h (.refl _ _) m rfl⟩
  · exact h.elim
end
end Dz
namespace Dz
open PySem PySem.Spec PyProof.Rows L2

/-! ### statements -/
section
variable {X : Cx} {pos : Pos}
def dNx : DS := fun D env s => D.nx env s
def dSeq (t u : DS) : DS := fun D env s => t { D with nx := u D } env s
def dBrk : DS := fun D env s => D.bk env s
def dCnt : DS := fun D env s => D.ct env s
def dRet (te : DE) : DS := fun D env s => te env s D.rt
def dRetN : DS := fun D _ s => D.rt .non s
def dExpr (te : DE) : DS := fun D env s => te env s fun _ s1 => D.nx env s1
def dIf (c : DT) (t u : DS) : DS := fun D env s => c env s fun b s1 => if b = true then t D env s1 else u D env s1
theorem pds_nil : PDSs X [] dNx := pss_imp pss_nil fun D σ H ⟨env, s, DD, h1, h2, h3, h4⟩ => h4.nx env s σ H h3 (.refl _ _) h2 h1
theorem pds_cons {st : Stmt} {rest : List Stmt} {t u : DS} (h : PDS X st t) (hr : PDSs X rest u) : PDSs X (st :: rest) (dSeq t u) :=
  pss_imp (pss_cons h hr) fun D σ H ⟨env, s, DD, h1, h2, h3, h4⟩ => ⟨env, s, { DD with nx := u DD }, h1, h2, h3, ⟨fun env' s' σ' H' q e m r => ⟨env', s', DD, r, m, q, h4.ext e⟩, h4.rt, h4.bk, h4.ct⟩⟩
theorem pds_one {st : Stmt} {t : DS} (h : PDS X st t) : PDSs X [st] t := pss_one h
theorem pd_pass : PDS X (.Pass pos) dNx := ps_imp ps_pass fun D σ H ⟨env, s, DD, h1, h2, h3, h4⟩ => h4.nx env s σ H h3 (.refl _ _) h2 h1
theorem pd_brk : PDS X (.Break pos) dBrk := ps_imp ps_break fun D σ H ⟨env, s, DD, h1, h2, h3, h4⟩ => h4.bk env s σ H h3 (.refl _ _) h2 h1
theorem pd_cnt : PDS X (.Continue pos) dCnt := ps_imp ps_continue fun D σ H ⟨env, s, DD, h1, h2, h3, h4⟩ => h4.ct env s σ H h3 (.refl _ _) h2 h1
theorem pd_ret {e : Expr} {te : DE} (h : PD X e te) : PDS X (.Return (some e) pos) (dRet te) := ps_imp (ps_ret h) fun D σ H ⟨env, s, DD, h1, h2, h3, h4⟩ => ⟨env, s, _, h1, h2, h3, h4.rt⟩
theorem pd_retN : PDS X (.Return none pos) dRetN := ps_imp ps_retN fun D σ H ⟨env, s, DD, h1, h2, h3, h4⟩ => h4.rt .non s _ H h3 (.refl _ _) h2 rfl
theorem pd_expr {e : Expr} {te : DE} (h : PD X e te) (hs : swapsWith e none pos.line X.env = pure false := by rfl) : PDS X (.Expr e pos) (dExpr te) :=
  ps_imp (ps_expr h hs) fun D σ H ⟨env, s, DD, h1, h2, h3, h4⟩ => ⟨env, s, _, h1, h2, h3, fun w s1 v H1 q e m r => h4.nx env s1 σ H1 q e m (h1.ext e.ext)⟩
theorem pd_if {c : Expr} {a b : List Stmt} {tc : DT} {t u : DS} (hc : PDT X c tc) (ha : PDSs X a t) (hb : PDSs X b u) : PDS X (.If c a b pos) (dIf tc t u) :=
  ps_imp (ps_if hc ha hb) fun D σ H ⟨env, s, DD, h1, h2, h3, h4⟩ => ⟨env, s, _, h1, h2, h3, fun b s1 H1 q e m => by
    cases b with
    | true => rw [if_pos rfl] at q ⊢; exact ⟨env, s1, DD, h1.ext e.ext, m, q, h4.ext e⟩
    | false => rw [if_neg Bool.false_ne_true] at q ⊢; exact ⟨env, s1, DD, h1.ext e.ext, m, q, h4.ext e⟩⟩

/-! ### targets -/
abbrev DG := D → Ev → Sg → (Ev → Sg → Prop) → Prop
abbrev DGs := List D → Ev → Sg → (Ev → Sg → Prop) → Prop
def liftG (K : PySem.W.Frag) (g : DG) : TG := fun v σ H Q => ∃ w env s R, Rep K H w v ∧ REnv K H env σ ∧ MRep K H s ∧ g w env s R ∧ PostN K H s R Q
def liftGs (K : PySem.W.Frag) (g : DGs) : TGs := fun v σ H Q => ∃ w env s R, Reps K H w v ∧ REnv K H env σ ∧ MRep K H s ∧ g w env s R ∧ PostN K H s R Q
/-- a V-level target serves a deep one -/
def GI (K : PySem.W.Frag) (g : DG) (gv : TG) : Prop := ∀ v σ H Q, liftG K g v σ H Q → gv v σ H Q
def GIs (K : PySem.W.Frag) (g : DGs) (gv : TGs) : Prop := ∀ v σ H Q, liftGs K g v σ H Q → gv v σ H Q
abbrev PDG (X : Cx) (tg : Expr) (g : DG) : Prop := PG X tg (liftG X.K g)
abbrev PDGs (X : Cx) (tg : List Expr) (g : DGs) : Prop := PGs X tg (liftGs X.K g)
theorem pg_imp {tg : Expr} {g g' : TG} (h : PG X tg g) (hi : ∀ v σ H Q, g' v σ H Q → g v σ H Q) : PG X tg g' := ⟨fun pins s σ H v u Q I r q => h.run pins s σ H v u Q I r (hi v σ H Q q)⟩
theorem pgs_imp {tg : List Expr} {g g' : TGs} (h : PGs X tg g) (hi : ∀ v σ H Q, g' v σ H Q → g v σ H Q) : PGs X tg g' := ⟨fun pins s σ H v u Q I r q => h.run pins s σ H v u Q I r (hi v σ H Q q)⟩
def dgN (i : Nat) : DG := fun w env s R => R (env.set i (some w)) s
def dgNil : DGs := fun ws env s R => match ws with
  | [] => R env s
  | _ => False
def dgCons (g : DG) (gs : DGs) : DGs := fun ws env s R => match ws with
  | w :: r => g w env s fun env' s' => gs r env' s' R
  | [] => False
def dgT (n : Nat) (gs : DGs) : DG := fun w env s R => match asQ s w with
  | some ws => ws.length = n ∧ gs ws env s R
  | none => False
theorem gi_name {K : PySem.W.Frag} (i : Nat) : GI K (dgN i) (L2.gName i) := fun v σ H Q ⟨w, env, s, R, r, h1, h2, h3, h4⟩ => h4 _ s _ H h3 (.refl _ _) h2 (h1.set i r)
theorem gi_nil {K : PySem.W.Frag} : GIs K dgNil L2.gNil := fun v σ H Q ⟨w, env, s, R, r, h1, h2, h3, h4⟩ => by
  cases w with
  | nil => exact ⟨r, h4 _ s _ H h3 (.refl _ _) h2 h1⟩
  | cons _ _ => exact h3.elim
theorem pdg_name {i : Nat} {x : Str} (hN : X.N.Nodup) (hi : X.N[i]? = some x) (hx : Loc X.env.scope x) (hf : X.fn x = true ∨ X.env.scope.names.lookup x = some .local := by first | exact .inl rfl | exact .inr rfl | assumption) : PDG X (.Name x pos) (dgN i) := pg_imp (pg_name hN hi hx hf) (gi_name i)
theorem pdgs_nil : PDGs X [] dgNil := pgs_imp pgs_nil gi_nil
theorem pdgs_cons {e : Expr} {es : List Expr} {g : DG} {gs : DGs} (h1 : PDG X e g) (h2 : PDGs X es gs)
    (hs : (assignEach (e :: es) X.env).map (·.2) = assign e X.env :: (assignEach es X.env).map (·.2) := by rfl) : PDGs X (e :: es) (dgCons g gs) :=
  pgs_imp (pgs_cons h1 h2 hs) fun v σ H Q ⟨w, env, s, R, r, h1, h2, h3, h4⟩ => by
    cases w with
    | nil => exact h3.elim
    | cons w ws =>
      obtain ⟨v1, vr, rfl, r1, r2⟩ := r
      exact ⟨v1, vr, rfl, w, env, s, _, r1, h1, h2, h3, fun env' s' σ' H' q e m rr => ⟨ws, env', s', R, Reps.ext e.ext _ _ r2, rr, m, q, h4.ext e⟩⟩
theorem pdg_tup {es : List Expr} {k : Nat} {gs : DGs} {n : Nat} (hc : X.calm = true) (h : PDGs X es gs)
    (hn : (assignEach es X.env).length = n := by rfl) (hst : (assignEach es X.env).findIdx? (·.1) = none := by rfl) : PDG X (.Tuple es k pos) (dgT n gs) :=
  ⟨fun pins s σ H v u Q I r ⟨w, env, sg, R, rw', h1, h2, h3, h4⟩ => by
    unfold dgT at h3
    split at h3
    · rename_i ws e
      cases w with
      | tup us =>
        cases e
        obtain ⟨a, vs, e1, f, q⟩ := rw'
        exact (pg_tup hc h hn hst).run pins s σ H v u Q I r ⟨a, vs, e1, f.1, by rw [← q.len]; exact h3.1, ws, env, sg, R, q, h1, h2, h3.2, h4⟩
      | lst us =>
        obtain ⟨a, vs, e1, f, q⟩ := asL_sq (s := sg) (show asL sg (.lst us) = some ws from e) rw' h2
        exact (pg_unl hc h hn hst).run pins s σ H v u Q I r ⟨a, vs, e1, f, by rw [← q.len]; exact h3.1, ws, env, sg, R, q, h1, h2, h3.2, h4⟩
      | ref b =>
        obtain ⟨a, vs, e1, f, q⟩ := asL_sq (s := sg) (show asL sg (.ref b) = some ws from e) rw' h2
        exact (pg_unl hc h hn hst).run pins s σ H v u Q I r ⟨a, vs, e1, f, by rw [← q.len]; exact h3.1, ws, env, sg, R, q, h1, h2, h3.2, h4⟩
      | _ => cases e
    · exact h3.elim⟩
/-! assignments -/
def dAsg (te : DE) (g : DG) : DS := fun D env s => te env s fun w s1 => g w env s1 D.nx
def dSet (i : Nat) (te : DE) : DS := fun D env s => te env s fun w s1 => D.nx (env.set i (some w)) s1
theorem pd_set {i : Nat} {x : Str} {e : Expr} {te : DE} {pos' : Pos} (hN : X.N.Nodup) (hi : X.N[i]? = some x) (hx : Loc X.env.scope x) (he : PD X e te) (hs : swapsWith e (some (.Name x pos')) pos.line X.env = pure false := by rfl)
    (hf : X.fn x = true ∨ X.env.scope.names.lookup x = some .local := by first | exact .inl rfl | exact .inr rfl | assumption) : PDS X (.Assign [.Name x pos'] e pos) (dSet i te) :=
  ps_imp (ps_set hN hi hx he hs hf) fun D σ H ⟨env, s, DD, h1, h2, h3, h4⟩ => ⟨env, s, _, h1, h2, h3, fun w s1 v H1 q e m r => h4.nx _ s1 _ H1 q e m ((h1.ext e.ext).set i r)⟩
theorem pd_asg {tg e : Expr} {te : DE} {g : DG} (he : PD X e te) (hg : PDG X tg g) (hs : swapsWithSole [tg] e pos.line X.env = pure false := by rfl) (hw : swappedStores [tg] e X.env = pure none := by rfl)
    (h1 : (assignEach [tg] X.env).map (·.2) = [assign tg X.env] := by rfl) : PDS X (.Assign [tg] e pos) (dAsg te g) :=
  ps_imp (ps_asg he hg hs hw h1) fun D σ H ⟨env, s, DD, h1, h2, h3, h4⟩ => ⟨env, s, _, h1, h2, h3, fun w s1 v H1 q e m r => ⟨w, env, s1, _, r, h1.ext e.ext, m, q, h4.nx.ext e⟩⟩
def dPar (i j : Nat) (ta : DA) : DS := fun D env s => ta env s fun ws s1 => match ws with
  | [u, w] => D.nx ((env.set i (some u)).set j (some w)) s1
  | _ => False
def dPar3 (i j l : Nat) (ta : DA) : DS := fun D env s => ta env s fun ws s1 => match ws with
  | [u, w, z] => D.nx (((env.set i (some u)).set j (some w)).set l (some z)) s1
  | _ => False
theorem pd_par {i j : Nat} {x y : Str} {a b : Expr} {ta : DA} {px py pt : Pos} {kt k2 pt2} (hc : X.calm = true) (hN : X.N.Nodup) (hi : X.N[i]? = some x) (hj : X.N[j]? = some y) (hij : i ≠ j)
    (hx : X.env.scope.names.lookup x = some .local) (hy : X.env.scope.names.lookup y = some .local) (ha : PDA X [a, b] ta)
    (hw : swappedStores [.Tuple [.Name x px, .Name y py] kt pt] (.Tuple [a, b] k2 pt2) X.env = pure (some [x, y]) := by rfl)
    (hs : swapsWithSole [.Tuple [.Name x px, .Name y py] kt pt] (.Tuple [a, b] k2 pt2) pos.line X.env = pure false := by rfl) :
    PDS X (.Assign [.Tuple [.Name x px, .Name y py] kt pt] (.Tuple [a, b] k2 pt2) pos) (dPar i j ta) :=
  ps_imp (ps_par hc hN hi hj hij hx hy ha hw hs) fun D σ H ⟨env, s, DD, h1, h2, h3, h4⟩ => ⟨env, s, _, h1, h2, h3, fun ws s1 vs H1 q e m r => by
    split at q
    · obtain ⟨v1, r1, rfl, q1, q2⟩ := r
      obtain ⟨v2, r2, rfl, q3, q4⟩ := q2
      cases (show r2 = [] from q4)
      exact ⟨v1, v2, rfl, h4.nx _ s1 _ H1 q e m (((h1.ext e.ext).set i q1).set j q3)⟩
    · exact q.elim⟩
theorem pd_par3 {i j l : Nat} {x y z : Str} {a b c : Expr} {ta : DA} {px py pz pt : Pos} {kt k2 pt2} (hc : X.calm = true) (hN : X.N.Nodup) (hi : X.N[i]? = some x) (hj : X.N[j]? = some y) (hl : X.N[l]? = some z) (hij : i ≠ j) (hil : i ≠ l) (hjl : j ≠ l)
    (hx : X.env.scope.names.lookup x = some .local) (hy : X.env.scope.names.lookup y = some .local) (hz : X.env.scope.names.lookup z = some .local) (ha : PDA X [a, b, c] ta)
    (hw : swappedStores [.Tuple [.Name x px, .Name y py, .Name z pz] kt pt] (.Tuple [a, b, c] k2 pt2) X.env = pure (some [x, y, z]) := by rfl)
    (hs : swapsWithSole [.Tuple [.Name x px, .Name y py, .Name z pz] kt pt] (.Tuple [a, b, c] k2 pt2) pos.line X.env = pure false := by rfl) :
    PDS X (.Assign [.Tuple [.Name x px, .Name y py, .Name z pz] kt pt] (.Tuple [a, b, c] k2 pt2) pos) (dPar3 i j l ta) :=
  ps_imp (ps_par3 hc hN hi hj hl hij hil hjl hx hy hz ha hw hs) fun D σ H ⟨env, s, DD, h1, h2, h3, h4⟩ => ⟨env, s, _, h1, h2, h3, fun ws s1 vs H1 q e m r => by
    split at q
    · obtain ⟨v1, r1, rfl, q1, q2⟩ := r
      obtain ⟨v2, r2, rfl, q3, q4⟩ := q2
      obtain ⟨v3, r3, rfl, q5, q6⟩ := q4
      cases (show r3 = [] from q6)
      exact ⟨v1, v2, v3, rfl, h4.nx _ s1 _ H1 q e m ((((h1.ext e.ext).set i q1).set j q3).set l q5)⟩
    · exact q.elim⟩
end

/-! ### what is walked -/
def asI (s : Sg) : D → Option (List D)
  | .str x => some (x.cps.toList.map fun c => .str ⟨#[c]⟩)
  | w => asQ s w
/-- an iterator that hands out ws, as long as w stands -/
def ItOk (K : PySem.W.Frag) (J : It) (H : Hp) (w : D) (ws : List D) : Prop := ∀ H' s', Ext H H' → MRep K H' s' → asI s' w = some ws → ∀ i : Nat,
  (∀ x, ws[i]? = some x → J.go i H' ∧ ∀ v H2, J.yld i H' v H2 → Rep K H2 x v ∧ Stp H' s' H2 s' ∧ MRep K H2 s' ∧ ∀ b o, H' b = some o → H2 b = some o) ∧ (ws.length ≤ i → J.stop i H')
abbrev DI := Ev → Sg → (D → List D → Sg → Prop) → Prop
def liftI (K : PySem.W.Frag) (t : DI) : TI := fun σ H R => ∃ env s R', REnv K H env σ ∧ MRep K H s ∧ t env s R' ∧ ∀ w ws s1 H1 J, R' w ws s1 → Stp H s H1 s1 → MRep K H1 s1 → asI s1 w = some ws → ItOk K J H1 w ws → R J H1
abbrev PDI (X : Cx) (tg iter : Expr) (t : DI) : Prop := PI X tg iter (liftI X.K t)
theorem asI_lst {s : Sg} {ws : List D} : asI s (.lst ws) = some ws := rfl
theorem itok_list {K : PySem.W.Frag} {H : Hp} {w : D} {ws : List D} {a : Addr} (r : Rep K H w (.ref a)) (hL : ∀ s, asI s w = asL s w) : ItOk K (Itl K a) H w ws := fun H' s' e m hw i => by
  obtain ⟨b, vs, e1, f, q⟩ := asL_sq (s := s') (by rw [← hL]; exact hw) (Rep.ext e _ _ r) m
  cases e1
  refine ⟨fun x hx => ?_, fun hi => ⟨vs, f, by rw [← q.len]; exact hi⟩⟩
  obtain ⟨v, hv, rv⟩ := q.get hx
  refine ⟨⟨vs, v, f, hv⟩, fun v' H2 ⟨e2, y⟩ => ?_⟩
  subst e2
  have := y vs f
  rw [hv] at this
  cases this
  exact ⟨rv, .refl _ _, m, fun _ _ z => z⟩
theorem itok_tup {K : PySem.W.Frag} {H : Hp} {us ws : List D} {a : Addr} (r : Rep K H (.tup us) (.ref a)) : ItOk K (Itt K a) H (.tup us) ws := fun H' s' e m hw i => by
  cases hw
  obtain ⟨b, vs, e1, f, q⟩ := Rep.ext e _ _ r
  cases e1
  refine ⟨fun x hx => ?_, fun hi => ⟨vs, f.1, by rw [← q.len]; exact hi⟩⟩
  obtain ⟨v, hv, rv⟩ := q.get hx
  refine ⟨⟨vs, v, f.1, hv⟩, fun v' H2 ⟨e2, y⟩ => ?_⟩
  subst e2
  have := y vs f.1
  rw [hv] at this
  cases this
  exact ⟨rv, .refl _ _, m, fun _ _ z => z⟩
theorem itok_str {K : PySem.W.Frag} {H : Hp} {x : Str} {ws : List D} : ItOk K (Its x) H (.str x) ws := fun H' s' e m hw i => by
  cases hw
  refine ⟨fun y hy => ?_, fun hi => by show x.cps.size ≤ i; simpa using hi⟩
  rw [List.getElem?_map] at hy
  obtain ⟨c, hc, rfl⟩ := Option.map_eq_some_iff.mp hy
  have hi : i < x.cps.size := by
    have := (List.getElem?_eq_some_iff.mp hc).1
    simpa using this
  refine ⟨hi, fun v' H2 ⟨e2, d, hd, z⟩ => ?_⟩
  subst e2
  have : x.cps[i]? = some c := by simpa using hc
  rw [this] at hd
  cases hd
  exact ⟨z, .refl _ _, m, fun _ _ z => z⟩
section
variable {X : Cx} {tg : Expr}
theorem it_any {pins : List (Addr × Obj)} {σ : L2.St} {H : Hp} {s : Shared} {R : It → Hp → Prop} {sg : Sg} {w : D} {ws : List D} {v : V} {u : Value} (I : Inv X pins σ H s) (ru : RelV v u) (r : Rep X.K H w v) (m : MRep X.K H sg) (h : asI sg w = some ws)
    (q : ∀ J, ItOk X.K J H w ws → R J H) : wpAny (model X.prog X.w) X.A (pyIter u) (PIE X pins σ tg R) X.xe s := by
  have lists : ∀ a vs, v = .ref a → SqL X.K H a vs → R (Itl X.K a) H → wpAny (model X.prog X.w) X.A (pyIter u) (PIE X pins σ tg R) X.xe s := fun a vs e f z => by
    subst e
    cases ru
    obtain ⟨its, rv, p, hz⟩ := I.list f
    exact wpAny_pyIter_list p.isList (pi_one (tk := s.toks) I _ (turn_list a _) ⟨_, Heap.get?_push_size _ rfl, rfl, rfl⟩ z)
  cases w with
  | str x =>
    cases (show v = .str x from r)
    obtain ⟨t, rfl⟩ := ru
    cases ha : x.cps.all (· < 128)
    · exact wpAny_pyIter_wide ha (pi_one (tk := s.toks) I _ (turn_str _ x t "str_iterator" (.inr rfl)) ⟨_, Heap.get?_push_size _ rfl, rfl, rfl⟩ (q _ itok_str))
    · exact wpAny_pyIter_ascii ha (pi_one (tk := s.toks) I _ (turn_str _ x t "str_ascii_iterator" (.inl rfl)) ⟨_, Heap.get?_push_size _ rfl, rfl, rfl⟩ (q _ itok_str))
  | tup us =>
    obtain ⟨a, vs, rfl, f, g⟩ := id r
    cases ru
    obtain ⟨its, rv, p, hz⟩ := I.tuple f.1
    exact wpAny_pyIter_tuple (show s.heap.IsTuple a its.toArray from p) (pi_one (tk := s.toks) I _ (turn_tuple a _) ⟨_, Heap.get?_push_size _ rfl, rfl, rfl⟩ (q _ (itok_tup r)))
  | lst us =>
    obtain ⟨a, vs, e, f, g⟩ := asL_sq (s := sg) (ws := us) rfl r m
    exact lists a vs e f (q _ (itok_list (e ▸ r) fun _ => rfl))
  | ref b =>
    obtain ⟨a, vs, e, f, g⟩ := asL_sq (s := sg) (ws := ws) (show asL sg (.ref b) = some ws from h) r m
    exact lists a vs e f (q _ (itok_list (e ▸ r) fun _ => rfl))
  | _ => cases h
def dIt (te : DE) : DI := fun env s R => te env s fun w s1 => match asI s1 w with
  | some ws => R w ws s1
  | none => False
theorem pdi_it {e : Expr} {te : DE} (h : PD X e te) : PDI X tg e (dIt te) := by
  refine ⟨fun pins s σ H R I ⟨env, sg, R', h1, h2, h3, h4⟩ => ?_⟩
  have key : liftE X.K te σ H (fun v H1 => ∃ w ws s1, asI s1 w = some ws ∧ R' w ws s1 ∧ Stp H sg H1 s1 ∧ MRep X.K H1 s1 ∧ Rep X.K H1 w v) := by
    refine ⟨env, sg, _, h1, h2, h3, fun w s1 v H1 q e m r => ?_⟩
    split at q
    · rename_i ws hw
      exact ⟨w, ws, s1, hw, q, e, m, r⟩
    · exact q.elim
  refine thn (h.run pins s σ H _ I key) fun u s' ⟨v, H1, I1, ru, w, ws, s1, hw, q, e, m, r⟩ => ?_
  exact it_any I1 ru r m hw fun J z => h4 w ws s1 H1 J q e m hw z
/-- range -/
def rg (lo : Int) (n : Nat) : List D := (List.range n).map fun k : Nat => .int (lo + k)
theorem itok_range {K : PySem.W.Frag} {H : Hp} {lo : Int} {n : Nat} {ws : List D} : ItOk K (Itr lo n) H (.lst (rg lo n)) ws := fun H' s' e m hw i => by
  cases hw
  refine ⟨fun y hy => ?_, fun hi => by show n ≤ i; simpa [rg] using hi⟩
  unfold rg at hy
  rw [List.getElem?_map] at hy
  obtain ⟨k, hk, rfl⟩ := Option.map_eq_some_iff.mp hy
  have hi : i < n := by have := (List.getElem?_eq_some_iff.mp hk).1; simpa using this
  rw [List.getElem?_range hi] at hk
  cases hk
  refine ⟨hi, fun v' H2 ⟨e2, z⟩ => ?_⟩
  subst e2
  exact ⟨z, .refl _ _, m, fun _ _ z => z⟩
def dRng1 (ta : DA) : DI := fun env s R => ta env s fun ws s1 => match ws with
  | [.int j] => -1000000000 < j ∧ j < 1000000000 ∧ R (.lst (rg 0 j.toNat)) (rg 0 j.toNat) s1
  | _ => False
def dRng2 (ta : DA) : DI := fun env s R => ta env s fun ws s1 => match ws with
  | [.int i, .int j] => (-1000000000 < i ∧ i < 1000000000 ∧ -1000000000 < j ∧ j < 1000000000) ∧ R (.lst (rg i (j - i).toNat)) (rg i (j - i).toNat) s1
  | _ => False
theorem pdi_range1 {a : Expr} {ta : DA} {p pos : Pos} (hg : Gl X "range") (hm : X.mg "range" = none) (ha : PDA X [a] ta) (hs : starEach [a] X.env = [(false, eval a X.env)] := by rfl) : PDI X tg (.Call (.Name "range" p) [a] [] pos) (dRng1 ta) :=
  ⟨fun pins s σ H R I ⟨env, sg, R', h1, h2, h3, h4⟩ => (pi_range1 hg hm ha hs).run pins s σ H R I ⟨env, sg, _, h1, h2, h3, fun ws s1 vs H1 q e m r => by
    split at q
    · rename_i j
      obtain ⟨v, vr, rfl, r1, r2⟩ := r
      cases (show vr = [] from r2)
      cases (show v = .int j from r1)
      exact ⟨j, rfl, by omega, by omega, h4 _ _ s1 H1 _ q.2.2 e m rfl itok_range⟩
    · exact q.elim⟩⟩
theorem pdi_range2 {a b : Expr} {ta : DA} {p pos : Pos} (hg : Gl X "range") (hm : X.mg "range" = none) (ha : PDA X [a, b] ta) (hs : starEach [a, b] X.env = [(false, eval a X.env), (false, eval b X.env)] := by rfl) (hs2 : starEach [b] X.env = [(false, eval b X.env)] := by rfl) :
    PDI X tg (.Call (.Name "range" p) [a, b] [] pos) (dRng2 ta) :=
  ⟨fun pins s σ H R I ⟨env, sg, R', h1, h2, h3, h4⟩ => (pi_range2 hg hm ha hs hs2).run pins s σ H R I ⟨env, sg, _, h1, h2, h3, fun ws s1 vs H1 q e m r => by
    split at q
    · rename_i i j
      obtain ⟨v, vr, rfl, r1, r2⟩ := r
      obtain ⟨v2, vr2, rfl, r3, r4⟩ := r2
      cases (show vr2 = [] from r4)
      cases (show v = .int i from r1)
      cases (show v2 = .int j from r3)
      exact ⟨i, j, rfl, by omega, h4 _ _ s1 H1 _ q.2 e m rfl itok_range⟩
    · exact q.elim⟩⟩

/-! ### for -/
def dForL (w : D) (ws : List D) (g : DG) (tb : DS) (DD : DEnds) : List D → Ev → Sg → Prop
  | [], env, s => asI s w = some ws ∧ DD.nx env s
  | x :: r, env, s => asI s w = some ws ∧ g x env s fun env' s' => tb { DD with nx := dForL w ws g tb DD r, ct := dForL w ws g tb DD r, bk := DD.nx } env' s'
def dFor (ti : DI) (g : DG) (tb : DS) : DS := fun DD env s => ti env s fun w ws s1 => dForL w ws g tb DD ws env s1
theorem dForL_alive {w : D} {ws : List D} {g : DG} {tb : DS} {DD : DEnds} {l : List D} {env : Ev} {s : Sg} (h : dForL w ws g tb DD l env s) : asI s w = some ws := by cases l <;> exact h.1
theorem pd_for {iter : Expr} {body : List Stmt} {ti : DI} {g : DG} {tb : DS} {pos : Pos} (hp : PassesOwn (model X.prog X.w) X.A X.env X.xe) (hc : X.calm = true) (hi : PDI X tg iter ti) (hg : PDG X tg g) (hb : PDSs X body tb)
    (hs : ∀ x, foldedSetIterable iter X.env x = pure x := by intro _; rfl) : PDS X (.For tg iter body [] pos) (dFor ti g tb) :=
  ps_imp (ps_for hp hc hi hg hb hs) fun D σ H ⟨env, s, DD, h1, h2, h3, h4⟩ => ⟨env, s, _, h1, h2, h3, fun w ws s1 H1 J q e1 m1 hw ok => by
    refine ⟨fun i m σ' H' => m = ws.length - i ∧ i ≤ ws.length ∧ ∃ env' s', REnv X.K H' env' σ' ∧ MRep X.K H' s' ∧ Stp H1 s1 H' s' ∧ dForL w ws g tb DD (ws.drop i) env' s',
      ⟨_, rfl, Nat.zero_le _, env, s1, h1.ext e1.ext, m1, .refl _ _, q⟩, ?_⟩
    rintro i m σ' H' ⟨rfl, hi, env', s', r', m', e', q'⟩
    obtain ⟨o1, o2⟩ := ok H' s' e'.ext m' (dForL_alive q') i
    by_cases hlt : i < ws.length
    · obtain ⟨go, yl⟩ := o1 ws[i] (by simp [hlt])
      rw [List.drop_eq_getElem_cons hlt] at q'
      refine .inr ⟨go, fun σ2 H2 => ∃ env2 s2, REnv X.K H2 env2 σ2 ∧ MRep X.K H2 s2 ∧ Stp H1 s1 H2 s2 ∧ dForL w ws g tb DD (ws.drop (i + 1)) env2 s2, fun σ2 H2 z => ⟨ws.length - (i + 1), by omega, rfl, hlt, z⟩, fun v H2 y => ?_⟩
      obtain ⟨rv, e2, m2, _⟩ := yl v H2 y
      have e3 := e'.trans e2
      refine ⟨ws[i], env', s', _, rv, r'.ext e2.ext, m2, q'.2, fun env2 s2 σ2 H3 q2 e4 m4 r4 => ?_⟩
      exact ⟨env2, s2, _, r4, m4, q2, ⟨fun env5 s5 σ5 H5 q5 e5 m5 r5 => ⟨env5, s5, r5, m5, (e3.trans e4).trans e5, q5⟩, h4.rt.ext (e1.trans (e3.trans e4)), h4.nx.ext (e1.trans (e3.trans e4)), fun env5 s5 σ5 H5 q5 e5 m5 r5 => ⟨env5, s5, r5, m5, (e3.trans e4).trans e5, q5⟩⟩⟩
    · have ei : i = ws.length := by omega
      subst ei
      rw [List.drop_length] at q'
      exact .inl ⟨o2 (Nat.le_refl _), h4.nx env' s' σ' H' q'.2 (e1.trans e') m' r'⟩⟩
/-- while, with the fuel of its turns -/
def dWhileN (c : DT) (tb : DS) (DD : DEnds) : Nat → Ev → Sg → Prop
  | 0, _, _ => False
  | n + 1, env, s => c env s fun b s1 => if b = true then tb { DD with nx := dWhileN c tb DD n, ct := dWhileN c tb DD n, bk := DD.nx } env s1 else DD.nx env s1
def dWhile (c : DT) (tb : DS) : DS := fun DD env s => ∃ n, dWhileN c tb DD n env s
theorem pd_while {c : Expr} {body : List Stmt} {tc : DT} {tb : DS} {pos : Pos} (hp : PassesOwn (model X.prog X.w) X.A X.env X.xe) (hc : PDT X c tc) (hb : PDSs X body tb) : PDS X (.While c body [] pos) (dWhile tc tb) :=
  ps_imp (ps_while hp hc hb) fun D σ H ⟨env, s, DD, h1, h2, ⟨n, h3⟩, h4⟩ => by
    refine ⟨fun m σ' H' => ∃ env' s', REnv X.K H' env' σ' ∧ MRep X.K H' s' ∧ Stp H s H' s' ∧ dWhileN tc tb DD m env' s', ⟨n, env, s, h1, h2, .refl _ _, h3⟩, ?_⟩
    rintro m σ' H' ⟨env', s', r', m', e', q'⟩
    cases m with
    | zero => exact q'.elim
    | succ m =>
      refine ⟨env', s', _, r', m', q', fun b s2 H2 q2 e2 m2 => ?_⟩
      cases b with
      | true =>
        rw [if_pos rfl] at q2 ⊢
        refine ⟨fun σ5 H5 => ∃ env5 s5, REnv X.K H5 env5 σ5 ∧ MRep X.K H5 s5 ∧ Stp H s H5 s5 ∧ dWhileN tc tb DD m env5 s5, fun σ5 H5 z => ⟨m, Nat.lt_succ_self _, z⟩, env', s2, _, r'.ext e2.ext, m2, q2, ?_⟩
        exact ⟨fun env5 s5 σ5 H5 q5 e5 m5 r5 => ⟨env5, s5, r5, m5, (e'.trans e2).trans e5, q5⟩, h4.rt.ext (e'.trans e2), h4.nx.ext (e'.trans e2), fun env5 s5 σ5 H5 q5 e5 m5 r5 => ⟨env5, s5, r5, m5, (e'.trans e2).trans e5, q5⟩⟩
      | false =>
        rw [if_neg Bool.false_ne_true] at q2 ⊢
        exact h4.nx env' s2 σ' H2 q2 (e'.trans e2) m2 (r'.ext e2.ext)
end
end Dz
namespace Dz
open PySem PySem.Spec PyProof.Rows L2

/-! ### comprehensions -/
def wipeD (env : Ev) : List Nat → Ev
  | [] => env
  | v :: vs => (wipeD env vs).set v none
theorem REnv.setN {K : PySem.W.Frag} {H : Hp} {env : Ev} {σ : L2.St} (i : Nat) (h : REnv K H env σ) : REnv K H (env.set i none) (σ.set i none) := by
  refine ⟨by rw [List.length_set, List.length_set]; exact h.1, fun j u q => ?_⟩
  rw [List.getElem?_set] at q
  rw [List.getElem?_set]
  split at q
  · split at q <;> cases q
  · rename_i ne
    rw [if_neg ne]
    exact h.2 j u q
theorem REnv.wipe {K : PySem.W.Frag} {H : Hp} {env : Ev} {σ : L2.St} (h : REnv K H env σ) : ∀ vs : List Nat, REnv K H (wipeD env vs) (L2.wipe σ vs)
  | [] => h
  | v :: vs => (REnv.wipe h vs).setN v
theorem wipe_set_out {σ : L2.St} {i : Nat} {x : Option V} : ∀ {vs : List Nat}, i ∉ vs → L2.wipe (σ.set i x) vs = (L2.wipe σ vs).set i x
  | [], _ => rfl
  | v :: vs, h => by
    unfold L2.wipe
    rw [wipe_set_out (vs := vs) fun q => h (List.mem_cons_of_mem _ q), List.set_comm _ _ (fun e => h (by rw [e]; exact List.mem_cons_self))]
theorem wipe_set {σ : L2.St} {i : Nat} {x : Option V} : ∀ {vs : List Nat}, i ∈ vs → L2.wipe (σ.set i x) vs = L2.wipe σ vs
  | v :: vs, h => by
    unfold L2.wipe
    by_cases hm : i ∈ vs
    · rw [wipe_set hm]
    · rw [wipe_set_out hm]
      rcases List.mem_cons.mp h with e | e
      · subst e; rw [List.set_set]
      · exact absurd e hm
theorem wipe_idem {σ : L2.St} {vs : List Nat} : ∀ (us : List Nat), (∀ u ∈ us, u ∈ vs) → L2.wipe (L2.wipe σ us) vs = L2.wipe σ vs
  | [], _ => rfl
  | u :: us, h => by
    show L2.wipe ((L2.wipe σ us).set u none) vs = _
    rw [wipe_set (h u List.mem_cons_self), wipe_idem us fun z hz => h z (List.mem_cons_of_mem _ hz)]
structure Wi (vs : List Nat) (g : TG) : Prop where
  mono : ∀ v σ H (Q Q' : L2.St → Hp → Prop), (∀ σ H, Q σ H → Q' σ H) → g v σ H Q → g v σ H Q'
  wi : ∀ v σ H (Q : L2.St → Hp → Prop), g v σ H Q → g v σ H fun σ2 H2 => L2.wipe σ2 vs = L2.wipe σ vs ∧ Q σ2 H2
structure Wis (vs : List Nat) (g : TGs) : Prop where
  mono : ∀ v σ H (Q Q' : L2.St → Hp → Prop), (∀ σ H, Q σ H → Q' σ H) → g v σ H Q → g v σ H Q'
  wi : ∀ v σ H (Q : L2.St → Hp → Prop), g v σ H Q → g v σ H fun σ2 H2 => L2.wipe σ2 vs = L2.wipe σ vs ∧ Q σ2 H2
theorem wi_name {vs : List Nat} {i : Nat} (h : i ∈ vs) : Wi vs (L2.gName i) := ⟨fun v σ H Q Q' k q => k _ _ q, fun v σ H Q q => ⟨wipe_set h, q⟩⟩
theorem wi_nil {vs : List Nat} : Wis vs L2.gNil := ⟨fun v σ H Q Q' k q => ⟨q.1, k _ _ q.2⟩, fun v σ H Q q => ⟨q.1, rfl, q.2⟩⟩
theorem wi_cons {vs : List Nat} {g : TG} {gs : TGs} (a : Wi vs g) (b : Wis vs gs) : Wis vs (L2.gCons g gs) :=
  ⟨fun v σ H Q Q' k ⟨x, r, e, q⟩ => ⟨x, r, e, a.mono _ _ _ _ _ (fun σ1 H1 z => b.mono _ _ _ _ _ k z) q⟩,
   fun v σ H Q ⟨x, r, e, q⟩ => ⟨x, r, e, a.mono _ _ _ _ _ (fun σ1 H1 ⟨e1, z⟩ => b.mono _ _ _ _ _ (fun σ2 H2 ⟨e2, z2⟩ => ⟨e2.trans e1, z2⟩) (b.wi _ _ _ _ z)) (a.wi _ _ _ _ q)⟩⟩
theorem wi_tup {vs : List Nat} {K : PySem.W.Frag} {n : Nat} {gs : TGs} (b : Wis vs gs) : Wi vs (L2.gTup K n gs) :=
  ⟨fun v σ H Q Q' k ⟨a, xs, e1, e2, e3, q⟩ => ⟨a, xs, e1, e2, e3, b.mono _ _ _ _ _ k q⟩, fun v σ H Q ⟨a, xs, e1, e2, e3, q⟩ => ⟨a, xs, e1, e2, e3, b.wi _ _ _ _ q⟩⟩
def dgTt (n : Nat) (gs : DGs) : DG := fun w env s R => match w with
  | .tup ws => ws.length = n ∧ gs ws env s R
  | _ => False
theorem gi_cons {K : PySem.W.Frag} {g : DG} {gs : DGs} {gv : TG} {gvs : TGs} (a : GI K g gv) (b : GIs K gs gvs) : GIs K (dgCons g gs) (L2.gCons gv gvs) := fun v σ H Q ⟨w, env, s, R, r, h1, h2, h3, h4⟩ => by
  cases w with
  | nil => exact h3.elim
  | cons w ws =>
    obtain ⟨v1, vr, rfl, r1, r2⟩ := r
    exact ⟨v1, vr, rfl, a _ _ _ _ ⟨w, env, s, _, r1, h1, h2, h3, fun env' s' σ' H' q e m rr => b _ _ _ _ ⟨ws, env', s', R, Reps.ext e.ext _ _ r2, rr, m, q, h4.ext e⟩⟩⟩
theorem gi_tup {K : PySem.W.Frag} {n : Nat} {gs : DGs} {gvs : TGs} (b : GIs K gs gvs) : GI K (dgTt n gs) (L2.gTup K n gvs) := fun v σ H Q ⟨w, env, s, R, r, h1, h2, h3, h4⟩ => by
  cases w with
  | tup ws =>
    obtain ⟨a, vs, rfl, f, q⟩ := r
    exact ⟨a, vs, rfl, f.1, by rw [← q.len]; exact h3.1, b _ _ _ _ ⟨ws, env, s, R, q, h1, h2, h3.2, h4⟩⟩
  | _ => exact h3.elim

def hid (H : Hp) (a : Addr) : Hp := fun b => if b = a then none else H b
theorem hid_same {H : Hp} {a : Addr} : hid H a a = none := if_pos rfl
theorem hid_ne {H : Hp} {a b : Addr} (h : b ≠ a) : hid H a b = H b := if_neg h
theorem hid_back {H : Hp} {a : Addr} {o : HO} (h : H a = some o) : upd (hid H a) a o = H := by
  funext b
  unfold upd hid
  by_cases e : b = a
  · rw [if_pos e, e, h]
  · rw [if_neg e, if_neg e]
theorem ext_hid {H : Hp} {a : Addr} (h : Mut (H a)) : Ext H (hid H a) :=
  ⟨fun b xs e => by rw [hid_ne (fun z => by subst z; rw [e] at h; exact h)]; exact e, fun b o u e => by rw [hid_ne (fun z => by subst z; rw [e] at h; exact h)]; exact e⟩
/-- an object aside, not tracked: it may be changed, or hidden -/
theorem MRep.side {K : PySem.W.Frag} {H H' : Hp} {s : Sg} {p : Addr} (m : MRep K H s) (e : Ext H H') (k : ∀ b, b ≠ p → H' b = H b) (hp : s.M p = none) (hv : p ∉ s.pv) : MRep K H' s := by
  have na : ∀ b o, s.M b = some o → b ≠ p := fun b o h z => by subst z; rw [hp] at h; cases h
  have nv : ∀ b ∈ s.pv, b ≠ p := fun b h z => by subst z; exact hv h
  refine ⟨fun a o h => ?_, m.one, fun b hb => by rw [k b (nv b hb)]; exact m.pvs b hb⟩
  have q := m.at_ a o h
  have ka := k a (na a o h)
  cases o with
  | lst ws => obtain ⟨vs, h1, h2⟩ := q; exact ⟨vs, ka.trans h1, Reps.ext e _ _ h2⟩
  | dic ks ws => obtain ⟨vs, h1, h2, h3⟩ := q; exact ⟨vs, ka.trans h1, h2, Reps.ext e _ _ h3⟩
  | ins C ns ws => obtain ⟨dx, vs, h1, h2, h3⟩ := q; exact ⟨dx, vs, ka.trans h1, h2, Reps.ext e _ _ h3⟩
  | box I =>
    obtain ⟨st, vs, h0, h1, h2, h3⟩ := q
    exact ⟨st, vs, h0, ka.trans h1, h2.keep fun b hb => k b (nv b hb), h3⟩
theorem Stp.side {H1 H H' : Hp} {s1 s : Sg} {p : Addr} (t : Stp H1 s1 H s) (e : Ext H H') (h1 : H1 p = none) (k : ∀ b, b ≠ p → H' b = H b) : Stp H1 s1 H' s :=
  ⟨t.ext.trans e, fun b o h2 h3 h4 h5 => by obtain ⟨x, y, z⟩ := t.fr b o h2 h3 h4 h5; exact ⟨(k b (ne_of_none h2 h1)).trans x, y, z⟩⟩

def dLcL (w : D) (ws : List D) (g : DG) (tt : DT) (te : DE) (vs : List Nat) (env : Ev) (R : List D → Sg → Prop) : List D → List D → Sg → Prop
  | [], acc, s => asI s w = some ws ∧ R acc s
  | x :: r, acc, s => asI s w = some ws ∧ g x (wipeD env vs) s fun env2 s2 => tt env2 s2 fun b s3 => if b = true then te env2 s3 fun y s4 => acc.length < 1000000 ∧ dLcL w ws g tt te vs env R r (acc ++ [y]) s4 else dLcL w ws g tt te vs env R r acc s3
def dLc (ti : DI) (g : DG) (tt : DT) (te : DE) (vs : List Nat) : DA := fun env s R => ti env s fun w ws s1 => dLcL w ws g tt te vs env R ws [] s1
theorem dLcL_alive {w : D} {ws : List D} {g : DG} {tt : DT} {te : DE} {vs : List Nat} {env : Ev} {R : List D → Sg → Prop} {l acc : List D} {s : Sg} (h : dLcL w ws g tt te vs env R l acc s) : asI s w = some ws := by cases l <;> exact h.1
theorem mil1 {n : Nat} (h : n < 1000000) : n < sizeLine := Nat.lt_of_lt_of_le h mil
theorem lc_imp {K : PySem.W.Frag} {ti : DI} {g : DG} {gv : TG} {tt : DT} {te : DE} {vs : List Nat} (gi : GI K g gv) (wi : Wi vs gv) : ∀ σ H Q, tNew (liftA K (dLc ti g tt te vs)) σ H Q → tLc (liftI K ti) gv (liftT K tt) (liftE K te) vs σ H Q := fun σ H Q ⟨env, s, R, h1, h2, h3, h4⟩ => by
  refine ⟨env, s, _, h1, h2, h3, fun w ws s1 H1 J q e1 m1 hw ok => ?_⟩
  intro L hL
  refine ⟨fun i m H' => m = ws.length - i ∧ i ≤ ws.length ∧ ∃ s' acc us, H' L = some (.lst us) ∧ Reps K H' acc us ∧ MRep K H' s' ∧ s'.M L = none ∧ L ∉ s'.pv ∧ Stp H1 s1 H' s' ∧ dLcL w ws g tt te vs env R (ws.drop i) acc s',
    ⟨_, rfl, Nat.zero_le _, s1, [], [], upd_same, rfl, m1.new hL, m1.free hL, m1.npv hL, .new hL, q⟩, ?_⟩
  rintro i m H' ⟨rfl, hi, s', acc, us, z1, z2, z3, z4, z5, z6, z7⟩
  obtain ⟨o1, o2⟩ := ok H' s' z6.ext z3 (dLcL_alive z7) i
  have mu : Mut (H' L) := by rw [z1]; trivial
  by_cases hlt : i < ws.length
  · obtain ⟨go, yl⟩ := o1 ws[i] (by simp [hlt])
    rw [List.drop_eq_getElem_cons hlt] at z7
    refine .inr ⟨go, fun H2 => ∃ s2 acc2 us2, H2 L = some (.lst us2) ∧ Reps K H2 acc2 us2 ∧ MRep K H2 s2 ∧ s2.M L = none ∧ L ∉ s2.pv ∧ Stp H1 s1 H2 s2 ∧ dLcL w ws g tt te vs env R (ws.drop (i + 1)) acc2 s2, fun H2 z => ⟨ws.length - (i + 1), by omega, rfl, hlt, z⟩, fun v H2 y => ?_⟩
    obtain ⟨rv, e2, m2, kp⟩ := yl v H2 y
    refine wi.mono _ _ _ _ _ (fun σ2 H3 z => ⟨z.1.trans (wipe_idem vs fun _ h => h), z.2⟩) (wi.wi _ _ _ _ ?_)
    refine gi _ _ _ _ ⟨ws[i], wipeD env vs, s', _, rv, REnv.wipe (((h1.ext e1.ext).ext z6.ext).ext e2.ext) vs, m2, z7.2, fun env2 s2 σ2 H3 q2 e3 m3 r3 => ?_⟩
    refine ⟨env2, s2, _, r3, m3, q2, fun b s3 H4 q3 e4 m4 => ?_⟩
    cases b with
    | true =>
      rw [if_pos rfl] at q3 ⊢
      refine ⟨env2, s3, _, r3.ext e4.ext, m4, q3, fun yy s4 v5 H5 q5 e5 m5 r5 => ?_⟩
      have et := e2.trans (e3.trans (e4.trans e5))
      obtain ⟨f1, f2, f3⟩ := et.fr L _ z1 trivial z4 z5
      have mu5 : Mut (H5 L) := by rw [f1]; trivial
      have ex : Ext H5 (upd H5 L (.lst (us ++ [v5]))) := .put mu5
      have rs := Reps.append (Reps.ext et.ext _ _ z2) (show Reps K H5 [yy] [v5] from ⟨v5, [], rfl, r5, rfl⟩)
      exact ⟨us, f1, by rw [← z2.len]; exact mil1 q5.1, s4, acc ++ [yy], us ++ [v5], upd_same, Reps.ext ex _ _ rs, m5.side ex (fun b hb => upd_ne hb) f2 f3, f2, f3, (z6.trans et).side ex hL fun b hb => upd_ne hb, q5.2⟩
    | false =>
      rw [if_neg Bool.false_ne_true] at q3 ⊢
      have et := e2.trans (e3.trans e4)
      obtain ⟨f1, f2, f3⟩ := et.fr L _ z1 trivial z4 z5
      exact ⟨s3, acc, us, f1, Reps.ext et.ext _ _ z2, m4, f2, f3, z6.trans et, q3⟩
  · have ei : i = ws.length := by omega
    subst ei
    rw [List.drop_length] at z7
    refine .inl ⟨o2 (Nat.le_refl _), ?_⟩
    have := h4 acc s' us (hid H' L) z7.2 (e1.trans (z6.side (ext_hid mu) hL fun b hb => hid_ne hb)) (z3.side (ext_hid mu) (fun b hb => hid_ne hb) z4 z5) (Reps.ext (ext_hid mu) _ _ z2) L hid_same
    rw [hid_back z1] at this
    exact this
section
variable {X : Cx}
abbrev PDTs (X : Cx) (ifs : List Expr) (t : DT) : Prop := PTs X ifs (liftT X.K t)
def dYes : DT := fun _ s R => R true s
theorem pdts_nil : PDTs X [] dYes := ⟨fun pins s σ H Q I ⟨env, sg, R, h1, h2, h3, h4⟩ => pts_nil.run pins s σ H Q I (h4 true sg H h3 (.refl _ _) h2)⟩
theorem pdts_one {c : Expr} {t : DT} (h : PDT X c t) : PDTs X [c] t := pts_one h
theorem nl_lc {elt tg iter : Expr} {ifs : List Expr} {scope : Scope} {own : List (Str × Nat)} {pos : Pos} {ti : DI} {g : DG} {gv : TG} {tt : DT} {te : DE} (gi : GI X.K g gv) (wi : Wi (own.map (·.2)) gv) (hc : X.calm = true) (hN : X.N.Nodup) (hi : PDI X tg iter ti) (ok : BlkOk X.N X.env.scope scope own)
    (hg : ∀ (s : Shared) (H : Hp) (C : Addr) (cl : List (Str × Addr)) (fp : List Addr), PG (X.blk s H scope (compEnvC scope cl C X.env) fp) tg gv) (ht : ∀ (s : Shared) (H : Hp) (C : Addr) (cl : List (Str × Addr)) (fp : List Addr), PDTs (X.blk s H scope (compEnvC scope cl C X.env) fp) ifs tt)
    (he : ∀ (s : Shared) (H : Hp) (C : Addr) (cl : List (Str × Addr)) (fp : List Addr), PD (X.blk s H scope (compEnvC scope cl C X.env) fp) elt te) (hs : ∀ x, foldedSetIterable iter X.env x = pure x := by intro _; rfl) :
    PNL X (.ListComp elt [⟨tg, iter, ifs, 0⟩] scope pos) (dLc ti g tt te (own.map (·.2))) := pe_imp (pe_lc hc hN hi ok hg ht he hs) (lc_imp gi wi)
/-- name = [..], the list a value -/
theorem pd_setF {st : Stmt} {t : TE} {dt : DA} {i : Nat} (h : PS X st (tAsg t (L2.gName i))) (ht : ∀ σ H Q, tNew (liftA X.K dt) σ H Q → t σ H Q) : PDS X st (dSet i (dF dt)) := ⟨fun pins s σ H DE0 I ⟨env, sg, DD, h1, h2, h3, h4⟩ => by
  refine wpAny_mono (h.run pins s σ H { nx := fun σ' H' => ∃ (p : Addr) (vs : List V) (ws : List D) (s1 : Sg) (H1 : Hp), σ' = σ.set i (some (V.ref p)) ∧ H' = upd H1 p (HO.lst vs) ∧ H1 p = none ∧ DD.nx (env.set i (some (D.lst ws))) s1 ∧ Stp H sg H1 s1 ∧ MRep X.K H1 s1 ∧ Reps X.K H1 ws vs, rt := DE0.rt, bk := DE0.bk, ct := DE0.ct } I ?_) (fun f s' hf => ?_) fun _ _ z => z
  · exact ht σ H _ ⟨env, sg, _, h1, h2, h3, fun ws s1 vs H1 q e m r p hp => ⟨p, vs, ws, s1, H1, rfl, rfl, hp, q, e, m, r⟩⟩
  · cases f with
    | next =>
      obtain ⟨σ', H', I', p, vs, ws, s1, H1, rfl, rfl, hp, q, e, m, r⟩ := hf
      obtain ⟨o, I2⟩ := inv_freeze I' (upd_same (o := HO.lst vs)) trivial
      rw [upd_upd] at I2
      exact ⟨_, _, I2, h4.nx _ s1 _ _ q (e.trans (.new hp)) (m.new hp) (((h1.ext e.ext).ext (.new hp)).set i ⟨p, vs, rfl, .inl (.inr ⟨o, fz_frz upd_same⟩), Reps.ext (.new hp) _ _ r⟩)⟩
    | brk => exact hf
    | cont => exact hf
    | ret u => exact hf⟩
theorem pd_setM {st : Stmt} {t : TE} {dt : DA} {i : Nat} (h : PS X st (tAsg t (L2.gName i))) (ht : ∀ σ H Q, tNew (liftA X.K dt) σ H Q → t σ H Q) : PDS X st (dSet i (dM dt)) :=
  ps_imp h fun D σ H ⟨env, s, DD, h1, h2, h3, h4⟩ => ht σ H _ ⟨env, s, _, h1, h2, h3, fun ws s1 vs H1 q e m r p hp =>
    h4.nx _ _ _ _ (q p (m.free hp)) (e.trans (.put (.inl hp))) (m.write (.inl hp) (fun _ => nofun) ⟨vs, upd_same, Reps.ext (.new hp) _ _ r⟩) (((h1.ext e.ext).ext (.new hp)).set i rfl)⟩
end
end Dz
namespace Dz
open PySem PySem.Spec PyProof.Rows L2

/-! ### a value, or a new list that is locked -/
def tFrzO (t : TE) : TE := fun σ H Q => t σ H fun v H1 => Q v H1 ∨ ∃ a z, v = .ref a ∧ H1 a = some z ∧ Mut (some z) ∧ ∀ o, Q v (upd H1 a (.frz o z))
section
variable {X : Cx}
theorem pe_frzO {e : Expr} {t : TE} (h : PE X e t) : PE X e (tFrzO t) := ⟨fun pins s σ H Q I q => thn (h.run pins s σ H _ I q) fun u s' ⟨v, H1, I1, r, k⟩ => by
  rcases k with k | ⟨a, z, e1, e2, e3, k⟩
  · exact ⟨v, H1, I1, r, k⟩
  · obtain ⟨o, I2⟩ := inv_freeze I1 e2 e3
    exact ⟨v, _, I2, r, k o⟩⟩
/-- Q behind a new list that is locked at once -/
theorem frz_new {K : PySem.W.Frag} {H H1 : Hp} {s s1 : Sg} {R : KD} {Q : VK} {ws : List D} {vs : List V} {p : Addr} (h4 : Post K H s R Q) (q : R (.lst ws) s1) (e : Stp H s H1 s1) (m : MRep K H1 s1) (r : Reps K H1 ws vs) (hp : H1 p = none) :
    ∃ a z, V.ref p = .ref a ∧ upd H1 p (.lst vs) a = some z ∧ Mut (some z) ∧ ∀ o, Q (.ref p) (upd (upd H1 p (.lst vs)) a (.frz o z)) :=
  ⟨p, _, rfl, upd_same, trivial, fun o => by
    rw [upd_upd]
    exact h4 (.lst ws) s1 (.ref p) _ q (e.trans (.new hp)) (m.new hp) ⟨p, vs, rfl, .inl (.inr ⟨o, fz_frz upd_same⟩), Reps.ext (.new hp) _ _ r⟩⟩
/-- a + b of anything; lists give a locked list -/
def rAddU : D2 := fun x y s R => match x, y with
  | .int i, .int j => R (.int (i + j)) s
  | .str a, .str b => a.length + b.length ≤ 1000000 ∧ R (.str (a ++ b)) s
  | .tup a, .tup b => a.length + b.length ≤ 1000000 ∧ R (.tup (a ++ b)) s
  | x, y => (match asL s x, asL s y with
    | some a, some b => a.length + b.length ≤ 1000000 ∧ R (.lst (a ++ b)) s
    | _, _ => False)
theorem pd_add {a b : Expr} {ta tb : DE} {pos : Pos} (ha : PD X a ta) (hb : PD X b tb) : PD X (.BinOp a .Add b pos) (dOp rAddU ta tb) :=
  pe_imp (pe_frzO (pe_op ((op_add.or op_add_str).or (op_catN.or op_catS)) ha hb)) fun σ H Q ⟨env, s, R, h1, h2, h3, h4⟩ => by
    refine ⟨env, s, _, h1, h2, h3, fun x s1 v H1 q e1 m1 r1 => ⟨env, s1, _, h1.ext e1.ext, m1, q, fun y s2 u H2 q2 e2 m r2 => ?_⟩⟩
    have r1' := Rep.ext e2.ext _ _ r1
    have e12 := e1.trans e2
    unfold rAddU at q2
    split at q2
    · rename_i i j
      exact .inl (.inl ⟨i, j, r1', r2, .inl (h4 _ _ _ _ q2 e12 m rfl)⟩)
    · rename_i a b
      exact .inl (.inr ⟨a, b, r1', r2, Nat.le_trans q2.1 mil, .inl (h4 _ _ _ _ q2.2 e12 m rfl)⟩)
    · rename_i ws us
      obtain ⟨a, vs, rfl, f1, q1⟩ := r1'
      obtain ⟨b, ts, rfl, f2, g2⟩ := r2
      have hl : vs.length + ts.length ≤ sizeLine := by rw [← q1.len, ← g2.len]; exact Nat.le_trans q2.1 mil
      refine .inr (.inl ⟨a, b, vs, ts, rfl, rfl, f1.1, f2.1, hl, fun e => .inl ?_, fun _ e => .inl ?_, fun _ _ q o hq ho => .inl ?_⟩)
      · subst e
        have e0 : ws = [] := List.length_eq_zero_iff.mp q1.len
        subst e0
        exact h4 _ _ _ _ q2.2 e12 m ⟨b, ts, rfl, f2, g2⟩
      · subst e
        have e0 : us = [] := List.length_eq_zero_iff.mp g2.len
        subst e0
        exact h4 _ _ _ _ q2.2 e12 m ⟨a, vs, rfl, f1, by rw [List.append_nil]; exact q1⟩
      · exact h4 _ _ _ _ q2.2 (e12.trans (.new hq)) (m.new hq) ⟨q, vs ++ ts, rfl, .new ho, Reps.ext (.new hq) _ _ (q1.append g2)⟩
    · split at q2
      · rename_i as bs ea eb
        obtain ⟨l, vs, rfl, f1, g1⟩ := asL_sq ea r1' m
        obtain ⟨l2, ts, rfl, f2, g2⟩ := asL_sq eb r2 m
        exact .inr (.inr ⟨l, l2, vs, ts, rfl, rfl, f1, f2, by rw [← g1.len, ← g2.len]; exact Nat.le_trans q2.1 mil, fun p hp => .inr (frz_new h4 q2.2 e12 m (g1.append g2) hp)⟩)
      · exact q2.elim
/-- a * b: ints; a list that was just made and an int -/
def rMulU : D2 := fun x y s R => match x, y with
  | .int i, .int j => CMul i j ∧ R (.int (i * j)) s
  | .ref l, .int k => (match s.M l with
    | some (.lst ws) => -1000000 ≤ k ∧ k ≤ 1000000 ∧ ws.length * k.toNat ≤ 1000000 ∧ R (.lst (List.replicate k.toNat ws).flatten) (s.del l)
    | _ => False)
  | _, _ => False
theorem del_sub {s : Sg} {l : Addr} : ∀ b u, (s.del l).M b = some u → s.M b = some u := fun b u e => by
  by_cases hb : b = l
  · subst hb; rw [show (s.del b).M b = none from Mm.del_same] at e; cases e
  · rw [show (s.del l).M b = s.M b from Mm.del_ne hb] at e; exact e
theorem pd_mul {a b : Expr} {ta tb : DE} {pos : Pos} (ha : PD X a ta) (hb : PD X b tb) : PD X (.BinOp a .Mult b pos) (dOp rMulU ta tb) :=
  pe_imp (pe_frzO (pe_op (op_mul.or op_rep) ha hb)) fun σ H Q ⟨env, s, R, h1, h2, h3, h4⟩ => by
    refine ⟨env, s, _, h1, h2, h3, fun x s1 v H1 q e1 m1 r1 => ⟨env, s1, _, h1.ext e1.ext, m1, q, fun y s2 u H2 q2 e2 m r2 => ?_⟩⟩
    have r1' := Rep.ext e2.ext _ _ r1
    have e12 := e1.trans e2
    unfold rMulU at q2
    split at q2
    · rename_i i j
      exact .inl ⟨i, j, r1', r2, q2.1, .inl (h4 _ _ _ _ q2.2 e12 m rfl)⟩
    · rename_i l k
      cases (show v = .ref l from r1')
      cases (show u = .int k from r2)
      cases hm : s2.M l with
      | none => rw [hm] at q2; exact q2.elim
      | some o =>
        rw [hm] at q2
        cases o with
        | lst ws =>
          obtain ⟨vs, z1, z2⟩ := m.at_ l _ hm
          obtain ⟨c1, c2, c3, c4⟩ := q2
          exact .inr ⟨l, k, vs, rfl, rfl, z1, by omega, by omega, by rw [← z2.len]; exact Nat.le_trans c3 mil, fun p hp => .inr (frz_new h4 c4 (e12.trans (.weak del_sub rfl)) (m.weak del_sub (Nat.le_refl _) rfl) (z2.rep _) hp)⟩
        | _ => exact q2.elim
    · exact q2.elim

/-! ### subscripts -/
theorem atI_len {α β : Type} {xs : List α} {ys : List β} (h : xs.length = ys.length) (i : Int) : ixN xs.length i = ixN ys.length i := by rw [h]
theorem Reps.atI {K : PySem.W.Frag} {H : Hp} {ws : List D} {vs : List V} {i : Int} {w : D} (r : Reps K H ws vs) (h : L2.atI ws i = some w) : ∃ v, L2.atI vs i = some v ∧ Rep K H w v := by
  unfold L2.atI at h ⊢
  rw [r.len] at h
  obtain ⟨j, e1, e2⟩ := Option.bind_eq_some_iff.mp h
  obtain ⟨v, e3, e4⟩ := r.get e2
  exact ⟨v, Option.bind_eq_some_iff.mpr ⟨j, e1, e3⟩, e4⟩
def rIxU : D2 := fun x y s R => match y with
  | .int i => (match x with
    | .str z => z.length ≤ 1000000 ∧ (match L2.atI z.cps.toList i with
      | some c => R (.str ⟨#[c]⟩) s
      | none => False)
    | x => (match asQ s x with
      | some ws => (match L2.atI ws i with
        | some w => R w s
        | none => False)
      | none => False))
  | _ => False
theorem ix_imp {r r' : R2} (h : IxR X r) (hi : ∀ x y H Q, r' x y H Q → r x y H Q) : IxR X r' := fun va sl pins s σ H x y v u Q I rx ry q hs => h va sl pins s σ H x y v u Q I rx ry (hi x y H Q q) hs
theorem pd_ix {a b : Expr} {ta tb : DE} {pos : Pos} (ha : PD X a ta) (hb : PD X b tb) (hs : PlainIx b) : PD X (.Subscript a b pos) (dOp rIxU ta tb) := by
  refine pe_imp (pe_ix (r := lift2 X.K rIxU) (ix_imp ix_seq fun x y H Q ⟨w, u, s, R, r1, r2, m, h, p⟩ => ?_) ha hb hs) (dOp_imp X.K rIxU ta tb)
  unfold rIxU at h
  split at h
  · rename_i i
    split at h
    · rename_i z
      split at h
      · rename_i c hc
        exact .inr (.inr ⟨z, i, c, r1, r2, Nat.le_trans h.1 mil, hc, p _ _ _ _ h.2 (.refl _ _) m rfl⟩)
      · exact h.2.elim
    · split at h
      · rename_i ws hw
        split at h
        · rename_i x' hx
          obtain ⟨a, vs, e, f, g⟩ := asQ_sq hw r1 m
          obtain ⟨v', e1, e2⟩ := g.atI hx
          rcases f with f | f
          · exact .inl ⟨a, vs, i, v', e, r2, f, e1, p _ _ _ _ h (.refl _ _) m e2⟩
          · exact .inr (.inl ⟨a, vs, i, v', e, r2, f, e1, p _ _ _ _ h (.refl _ _) m e2⟩)
        · exact h.elim
      · exact h.elim
  · exact h.elim
/-! slices -/
abbrev DO := Ev → Sg → (Option Int → Sg → Prop) → Prop
def dNoPart : DO := fun _ s R => R none s
def dPart (t : DE) : DO := fun env s R => t env s fun w s1 => match w with
  | .int i => R (some i) s1
  | _ => False
def PostO (K : PySem.W.Frag) (H : Hp) (s0 : Sg) (R : Option Int → Sg → Prop) (Q : Option Int → Hp → Prop) : Prop := ∀ b s H', R b s → Stp H s0 H' s → MRep K H' s → Q b H'
def liftO (K : PySem.W.Frag) (t : DO) : TO := fun σ H Q => ∃ env s R, REnv K H env σ ∧ MRep K H s ∧ t env s R ∧ PostO K H s R Q
abbrev PDO (X : Cx) (e : Option Expr) (t : DO) : Prop := PO X e (liftO X.K t)
theorem po_imp {e : Option Expr} {t t' : TO} (h : PO X e t) (hi : ∀ σ H Q, t' σ H Q → t σ H Q) : PO X e t' := by
  obtain ⟨run⟩ := h
  constructor
  intros
  apply run
  · assumption
  · apply hi; assumption
theorem pdo_none : PDO X none dNoPart := po_imp po_none fun σ H Q ⟨env, s, R, h1, h2, h3, h4⟩ => h4 none s H h3 (.refl _ _) h2
theorem pdo_some {e : Expr} {t : DE} (h : PD X e t) : PDO X (some e) (dPart t) := po_imp (po_some h) fun σ H Q ⟨env, s, R, h1, h2, h3, h4⟩ => ⟨env, s, _, h1, h2, h3, fun w s1 v H1 q e m r => by
  split at q
  · rename_i i
    exact ⟨i, r, h4 _ s1 H1 q e m⟩
  · exact q.elim⟩
def cutD (xs : List D) (lo hi : Option Int) : List D := (xs.drop (HT.sIx xs.length 0 lo)).take (HT.sIx xs.length xs.length hi - HT.sIx xs.length 0 lo)
theorem Reps.cut {K : PySem.W.Frag} {H : Hp} {ws : List D} {vs : List V} (r : Reps K H ws vs) (lo hi : Option Int) : Reps K H (cutD ws lo hi) (cutV vs lo hi) := by
  unfold cutD cutV
  rw [r.len]
  exact (r.drop _).take _
theorem cutD_whole {ws : List D} {lo hi : Option Int} (h : HT.sIx ws.length 0 lo = 0 ∧ HT.sIx ws.length ws.length hi = ws.length) : cutD ws lo hi = ws := by
  unfold cutD
  rw [h.1, h.2]
  simp
def rSlU (x : D) (lo hi : Option Int) (s : Sg) (R : KD) : Prop := match x with
  | .str z => z.length ≤ 1000000 ∧ R (.str (cutS z lo hi)) s
  | .tup ws => R (.tup (cutD ws lo hi)) s
  | x => (match asL s x with
    | some ws => R (.lst (cutD ws lo hi)) s
    | none => False)
def dSl (te : DE) (tl th : DO) : DE := fun env s R => te env s fun x s1 => tl env s1 fun l s2 => th env s2 fun u s3 => rSlU x l u s3 R
theorem pd_sl {e : Expr} {lo hi : Option Expr} {te : DE} {tl th : DO} {p2 pos : Pos} (he : PD X e te) (hl : PDO X lo tl) (hu : PDO X hi th) : PD X (.Subscript e (.Slice lo hi none p2) pos) (dSl te tl th) :=
  pe_imp (pe_frzO (pe_slice (sl_str.or (sl_tupN.or sl_list)) he hl hu)) fun σ H Q ⟨env, s, R, h1, h2, h3, h4⟩ => by
    refine ⟨env, s, _, h1, h2, h3, fun x s1 v H1 q e1 m1 r1 => ⟨env, s1, _, h1.ext e1.ext, m1, q, fun l s2 H2 q2 e2 m2 => ⟨env, s2, _, (h1.ext e1.ext).ext e2.ext, m2, q2, fun u s3 H3 q3 e3 m3 => ?_⟩⟩⟩
    have r := Rep.ext e3.ext _ _ (Rep.ext e2.ext _ _ r1)
    have e := (e1.trans e2).trans e3
    unfold rSlU at q3
    split at q3
    · rename_i z
      exact .inl ⟨z, r, Nat.le_trans q3.1 mil, .inl (h4 _ _ _ _ q3.2 e m3 rfl)⟩
    · rename_i ws
      obtain ⟨a, vs, rfl, f, g⟩ := r
      refine .inr (.inl ⟨a, vs, rfl, f.1, fun c => .inl ?_, fun c p o hp ho => .inl ?_⟩)
      · rw [← g.len] at c
        rw [cutD_whole c] at q3
        exact h4 _ _ _ _ q3 e m3 ⟨a, vs, rfl, f, g⟩
      · exact h4 _ _ _ _ q3 (e.trans (.new hp)) (m3.new hp) ⟨p, _, rfl, .new ho, Reps.ext (.new hp) _ _ (g.cut l u)⟩
    · split at q3
      · rename_i ws hw
        obtain ⟨a, vs, rfl, f, g⟩ := asL_sq hw r m3
        exact .inr (.inr ⟨a, vs, rfl, f, fun p hp => .inr (frz_new h4 q3 e m3 (g.cut l u) hp)⟩)
      · exact q3.elim
/-- xs[::-1] of a list -/
def dRev (te : DE) : DE := fun env s R => te env s fun x s1 => match asL s1 x with
  | some ws => R (.lst ws.reverse) s1
  | none => False
theorem pd_rev {e : Expr} {te : DE} {k : Nat} {p1 p2 p3 pos : Pos} (he : PD X e te) : PD X (.Subscript e (.Slice none none (some (.UnaryOp .USub (.Constant (.int 1) k p1) p2)) p3) pos) (dRev te) :=
  pe_imp (pe_frzO (pe_revL he)) fun σ H Q ⟨env, s, R, h1, h2, h3, h4⟩ => by
    refine ⟨env, s, _, h1, h2, h3, fun x s1 v H1 q e1 m1 r1 => ?_⟩
    split at q
    · rename_i ws hw
      obtain ⟨a, vs, rfl, f, g⟩ := asL_sq hw r1 m1
      exact ⟨a, vs, rfl, f, fun p hp => .inr (frz_new h4 q e1 m1 g.reverse hp)⟩
    · exact q.elim

/-! ### built-in functions -/
theorem call_imp {f : Value} {r r' : List V → Hp → VK → Prop} (h : CallR X f r) (hi : ∀ xs H Q, r' xs H Q → r xs H Q) : CallR X f r' := fun pins s σ H xs us Q I r q => h pins s σ H xs us Q I r (hi xs H Q q)
theorem dCB_imp (K : PySem.W.Frag) (r : DL) (ta : DA) : ∀ σ H Q, liftE K (dCB r ta) σ H Q → tCB (liftL K r) (liftA K ta) σ H Q := fun σ H Q ⟨env, s, R, h1, h2, h3, h4⟩ =>
  ⟨env, s, _, h1, h2, h3, fun ws s1 vs H1 q e1 m1 r1 => ⟨ws, s1, R, r1, m1, q, h4.ext e1⟩⟩
section
variable {x : Str} {p pos : Pos} {e : Expr} {es : List Expr} {t : DA} {id T : String} {r : DL}
theorem pd_callB (hc : CallR X (.builtin id) (liftL X.K r)) (hg : Gl X x) (hm : X.mg x = none) (hv : bootBuiltins x = some (.builtin id)) (ha : PDA X (e :: es) t) (hn : x ≠ "__name__" := by decide) (hdb : (x == ("__debug__" : Str)) = false := by decide)
    (he : starEach (e :: es) X.env = (false, eval e X.env) :: starEach es X.env := by rfl) (hpl : (backTo pos (starEach es X.env)).any (·.1) = false := by rfl) : PD X (.Call (.Name x p) (e :: es) [] pos) (dCB r t) :=
  pe_imp (pe_callB hc hg hm hv ha hn hdb he hpl) (dCB_imp X.K r t)
theorem pd_callTy (hc : CallR X (.type T) (liftL X.K r)) (hg : Gl X x) (hm : X.mg x = none) (hv : bootBuiltins x = some (.type T)) (ha : PDA X (e :: es) t) (hn : x ≠ "__name__" := by decide) (hdb : (x == ("__debug__" : Str)) = false := by decide)
    (he : starEach (e :: es) X.env = (false, eval e X.env) :: starEach es X.env := by rfl) (hpl : (backTo pos (starEach es X.env)).any (·.1) = false := by rfl) : PD X (.Call (.Name x p) (e :: es) [] pos) (dCB r t) :=
  pe_imp (pe_callTy hc hg hm hv ha hn hdb he hpl) (dCB_imp X.K r t)
end
def rLenU : DL := fun ws s R => match ws with
  | [.str z] => z.length ≤ 1000000 ∧ R (.int z.length) s
  | [w] => (match asQ s w with
    | some us => R (.int us.length) s
    | none => False)
  | _ => False
theorem cd_len : CallR X (.builtin "len") (liftL X.K rLenU) := by
  refine call_imp (call_len_str.or call_len_seq) fun xs H Q ⟨ws, s, R, r1, m, h, p⟩ => ?_
  unfold rLenU at h
  split at h
  · rename_i z
    obtain ⟨v, r, rfl, r2, r3⟩ := r1
    cases (show r = [] from r3)
    exact .inl ⟨z, by rw [(show v = .str z from r2)], Nat.le_trans h.1 mil, p _ _ _ _ h.2 (.refl _ _) m rfl⟩
  · rename_i w _
    obtain ⟨v, r, rfl, r2, r3⟩ := r1
    cases (show r = [] from r3)
    split at h
    · rename_i us hu
      obtain ⟨a, vs, rfl, f, g⟩ := asQ_sq hu r2 m
      exact .inr ⟨a, vs, rfl, f, by rw [← g.len]; exact p _ _ _ _ h (.refl _ _) m rfl⟩
    · exact h.elim
  · exact h.elim
def rAbs : DL := fun ws s R => match ws with
  | [.int i] => R (.int (if i < 0 then -i else i)) s
  | _ => False
theorem cd_abs : CallR X (.builtin "abs") (liftL X.K rAbs) := by
  refine call_imp call_abs fun xs H Q ⟨ws, s, R, r1, m, h, p⟩ => ?_
  unfold rAbs at h
  split at h
  · rename_i i
    obtain ⟨v, r, rfl, r2, r3⟩ := r1
    cases (show r = [] from r3)
    exact ⟨i, by rw [(show v = .int i from r2)], p _ _ _ _ h (.refl _ _) m rfl⟩
  · exact h.elim
def rInt2 (g : Int → Int → Int) : DL := fun ws s R => match ws with
  | [.int i, .int j] => R (.int (g i j)) s
  | _ => False
theorem cd_max2 (hc : X.calm = true) : CallR X (.builtin "max") (liftL X.K (rInt2 fun i j => if j > i then j else i)) := by
  refine call_imp (call_max2 hc) fun xs H Q ⟨ws, s, R, r1, m, h, p⟩ => ?_
  unfold rInt2 at h
  split at h
  · rename_i i j
    obtain ⟨v, r, rfl, r2, v', r', rfl, r3, r4⟩ := r1
    cases (show r' = [] from r4)
    exact ⟨i, j, by rw [(show v = .int i from r2), (show v' = .int j from r3)], p _ _ _ _ h (.refl _ _) m rfl⟩
  · exact h.elim
theorem cd_min2 (hc : X.calm = true) : CallR X (.builtin "min") (liftL X.K (rInt2 fun i j => if j < i then j else i)) := by
  refine call_imp (call_min2 hc) fun xs H Q ⟨ws, s, R, r1, m, h, p⟩ => ?_
  unfold rInt2 at h
  split at h
  · rename_i i j
    obtain ⟨v, r, rfl, r2, v', r', rfl, r3, r4⟩ := r1
    cases (show r' = [] from r4)
    exact ⟨i, j, by rw [(show v = .int i from r2), (show v' = .int j from r3)], p _ _ _ _ h (.refl _ _) m rfl⟩
  · exact h.elim
def rToInt : DL := fun ws s R => match ws with
  | [.int i] => R (.int i) s
  | [.bl b] => R (.int (if b then 1 else 0)) s
  | _ => False
theorem cd_int : CallR X (.type "int") (liftL X.K rToInt) := by
  refine call_imp call_int1 fun xs H Q ⟨ws, s, R, r1, m, h, p⟩ => ?_
  unfold rToInt at h
  split at h
  · rename_i i
    obtain ⟨v, r, rfl, r2, r3⟩ := r1
    cases (show r = [] from r3)
    exact .inl ⟨i, by rw [(show v = .int i from r2)], p _ _ _ _ h (.refl _ _) m rfl⟩
  · rename_i b
    obtain ⟨v, r, rfl, r2, r3⟩ := r1
    cases (show r = [] from r3)
    exact .inr ⟨b, by rw [(show v = .bl b from r2)], p _ _ _ _ h (.refl _ _) m rfl⟩
  · exact h.elim
def rStrI : DL := fun ws s R => match ws with
  | [.int i] => i.natAbs.log2 < 1920 ∧ R (.str (toString i)) s
  | _ => False
theorem cd_str : CallR X (.type "str") (liftL X.K rStrI) := by
  refine call_imp call_str_int fun xs H Q ⟨ws, s, R, r1, m, h, p⟩ => ?_
  unfold rStrI at h
  split at h
  · rename_i i
    obtain ⟨v, r, rfl, r2, r3⟩ := r1
    cases (show r = [] from r3)
    exact ⟨i, by rw [(show v = .int i from r2)], h.1, p _ _ _ _ h.2 (.refl _ _) m rfl⟩
  · exact h.elim
/-- sums, alls of a list -/
def rSumU : DL := fun ws s R => ∃ (w : D) (ns : List Int), ws = [w] ∧ asL s w = some (ns.map D.int) ∧ R (.int ns.sum) s
theorem cd_sum (hc : X.calm = true) : CallR X (.builtin "sum") (liftL X.K rSumU) := by
  refine call_imp (cr_sum hc) fun xs H Q ⟨ws, s, R, r1, m, h, p⟩ => ?_
  obtain ⟨w, ns, rfl, hw, h⟩ := h
  obtain ⟨v, r, rfl, r2, r3⟩ := r1
  cases (show r = [] from r3)
  obtain ⟨a, vs, rfl, f, g⟩ := asL_sq hw r2 m
  cases g.ints
  exact ⟨a, ns, rfl, f, p _ _ _ _ h (.refl _ _) m rfl⟩
def rAllU (g : List Bool → Bool) : DL := fun ws s R => ∃ (w : D) (ns : List Bool), ws = [w] ∧ asL s w = some (ns.map D.bl) ∧ R (.bl (g ns)) s
theorem cd_all (hc : X.calm = true) : CallR X (.builtin "all") (liftL X.K (rAllU fun l => l.all id)) := by
  refine call_imp (cr_all hc) fun xs H Q ⟨ws, s, R, r1, m, h, p⟩ => ?_
  obtain ⟨w, ns, rfl, hw, h⟩ := h
  obtain ⟨v, r, rfl, r2, r3⟩ := r1
  cases (show r = [] from r3)
  obtain ⟨a, vs, rfl, f, g⟩ := asL_sq hw r2 m
  cases g.bls
  exact ⟨a, ns, rfl, f, p _ _ _ _ h (.refl _ _) m rfl⟩
theorem cd_any (hc : X.calm = true) : CallR X (.builtin "any") (liftL X.K (rAllU fun l => l.any id)) := by
  refine call_imp (cr_any hc) fun xs H Q ⟨ws, s, R, r1, m, h, p⟩ => ?_
  obtain ⟨w, ns, rfl, hw, h⟩ := h
  obtain ⟨v, r, rfl, r2, r3⟩ := r1
  cases (show r = [] from r3)
  obtain ⟨a, vs, rfl, f, g⟩ := asL_sq hw r2 m
  cases g.bls
  exact ⟨a, ns, rfl, f, p _ _ _ _ h (.refl _ _) m rfl⟩
end
end Dz
namespace Dz
open PySem PySem.Spec PyProof.Rows L2

/-! ### isinstance by built-in classes -/
def tyN (s : Sg) : D → Option String
  | .non => some "NoneType"
  | .bl _ => some "bool"
  | .int _ => some "int"
  | .str _ => some "str"
  | .tup _ => some "tuple"
  | .lst _ => some "list"
  | .dic _ _ => some "dict"
  | .ref a => (match s.M a with
    | some (.lst _) => some "list"
    | some (.dic _ _) => some "dict"
    | _ => none)
  | .ty _ => none
  | .exc _ _ _ _ => none
theorem tyN_ty {K : PySem.W.Frag} {H : Hp} {s : Sg} {w : D} {v : V} {n : String} (h : tyN s w = some n) (r : Rep K H w v) (m : MRep K H s) : TyX K H v (.type n) := by
  cases w with
  | non => cases h; cases r; exact .base .non
  | bl b => cases h; cases r; exact .base (.bl b)
  | int i => cases h; cases r; exact .base (.int i)
  | str x => cases h; cases r; exact .base (.str x)
  | tup ws =>
    cases h
    obtain ⟨a, vs, rfl, f, _⟩ := r
    rcases f with (f | ⟨o, f⟩) | ⟨o, its, n, f, c, _⟩
    · exact .base (.tup f)
    · exact .fTuple f
    · exact .kTuple f c
  | lst ws =>
    cases h
    obtain ⟨a, vs, rfl, f, _⟩ := r
    rcases f with (f | ⟨o, f⟩) | ⟨o, its, n, f, c, _⟩
    · obtain ⟨_, _, z, _⟩ := fz_some f; cases z
    · obtain ⟨_, _, z, q⟩ := fz_some f; cases z; exact .base (.frz q)
    · exact .kList f c
  | dic ks ws =>
    cases h
    obtain ⟨a, vs, o, rfl, f, _⟩ := r
    exact .fDict f
  | ref a =>
    cases (show v = .ref a from r)
    dsimp only [tyN] at h
    cases hm : s.M a with
    | none => rw [hm] at h; cases h
    | some o =>
      rw [hm] at h
      cases o with
      | lst us => cases h; obtain ⟨vs, e, _⟩ := m.at_ a _ hm; exact .base (.lst e)
      | dic ks us => cases h; obtain ⟨vs, e, _⟩ := m.at_ a _ hm; exact .base (.dK e)
      | _ => cases h
  | ty n => cases h
  | exc _ _ _ _ => cases h
/-- is a thing of class a one of class b -/
def subT (a b : String) : Bool := a == b || (a == "bool" && b == "int")
def isiT (a : String) (cs : List String) : Bool := cs.any (subT a)
def tyOk (a : String) : Bool := a == "NoneType" || a == "bool" || a == "int" || a == "str" || a == "tuple" || a == "list" || a == "dict"
theorem kitB_sub {a b : String} (ha : tyOk a = true) (hb : tyOk b = true) : kitB a b = some (subT a b) := by
  simp only [tyOk, Bool.or_eq_true, beq_iff_eq] at ha hb
  rcases ha with (((((rfl | rfl) | rfl) | rfl) | rfl) | rfl) | rfl <;> rcases hb with (((((rfl | rfl) | rfl) | rfl) | rfl) | rfl) | rfl <;> decide +kernel
theorem tyN_ok {s : Sg} {w : D} {n : String} (h : tyN s w = some n) : tyOk n = true := by
  cases w with
  | ref a =>
    dsimp only [tyN] at h
    cases hm : s.M a with
    | none => rw [hm] at h; cases h
    | some o => rw [hm] at h; cases o <;> first | (cases h; rfl) | cases h
  | _ => first | (cases h; rfl) | cases h
def tyNames : List D → Option (List String)
  | [] => some []
  | .ty n :: r => (tyNames r).map fun l => n :: l
  | _ => none
def rIsi : DL := fun ws s R => match ws with
  | [x, .ty c] => (match tyN s x with
    | some n => tyOk c = true ∧ R (.bl (subT n c)) s
    | none => False)
  | [x, .tup cs] => (match tyN s x, tyNames cs with
    | some n, some l => l.all tyOk = true ∧ R (.bl (isiT n l)) s
    | _, _ => False)
  | _ => False
theorem kitAny_sub {K : PySem.W.Frag} {a : String} (ha : tyOk a = true) : ∀ {l : List String}, l.all tyOk = true → PySem.W.kitAny K (.type a) (l.map Value.type) = some (isiT a l)
  | [], _ => kitAny_nil
  | b :: l, h => by
    rw [List.all_cons, Bool.and_eq_true] at h
    refine kitAny_cons (kit_ty (kitB_sub ha h.1)) (fun e => ?_) (fun e => ?_)
    · rw [kitAny_sub ha h.2]
      unfold isiT
      rw [List.any_cons, e, Bool.false_or]
    · unfold isiT
      rw [List.any_cons, e, Bool.true_or]
theorem tyNames_cls {K : PySem.W.Frag} {H : Hp} : ∀ {cs : List D} {l : List String} {vs : List V}, tyNames cs = some l → Reps K H cs vs → Paired ClsV vs (l.map Value.type)
  | [], l, vs, h, r => by cases h; cases (show vs = [] from r); exact .nil
  | .ty n :: cs, l, vs, h, r => by
    unfold tyNames at h
    obtain ⟨l', e, rfl⟩ := Option.map_eq_some_iff.mp h
    obtain ⟨v, r', rfl, r1, r2⟩ := r
    cases (show v = .ty n from r1)
    exact .cons (.ty n) (tyNames_cls e r2)
section
variable {X : Cx}
theorem cd_isi : CallR X (.builtin "isinstance") (liftL X.K rIsi) := by
  intro pins s σ H xs us Q I rr ⟨ws, sg, R, r1, m, h, p⟩
  unfold rIsi at h
  split at h
  · rename_i x c
    obtain ⟨v, r, rfl, r2, v', r', rfl, r3, r4⟩ := r1
    cases (show r' = [] from r4)
    cases (show v' = .ty c from r3)
    split at h
    · rename_i n hn
      exact call_isi pins s σ H _ us Q I rr ⟨v, .ty c, .type n, .type c, _, rfl, .ty c, tyN_ty hn r2 m, kit_ty (kitB_sub (tyN_ok hn) h.1), p _ _ _ _ h.2 (.refl _ _) m rfl⟩
    · exact h.elim
  · rename_i x cs
    obtain ⟨v, r, rfl, r2, v', r', rfl, r3, r4⟩ := r1
    cases (show r' = [] from r4)
    obtain ⟨a, vs, rfl, f, g⟩ := r3
    split at h
    · rename_i n l hn hl
      have kt := kitAny_sub (K := X.K) (tyN_ok hn) h.1
      have pc := tyNames_cls hl g
      have fin := p _ _ (.bl (isiT n l)) _ h.2 (.refl _ _) m rfl
      rcases f with (f | ⟨o, f⟩) | f
      · exact call_isiT pins s σ H _ us Q I rr ⟨v, a, vs, .type n, l.map Value.type, _, rfl, f, pc, tyN_ty hn r2 m, kt, fin⟩
      all_goals
        obtain ⟨u1, u2, rfl, q1, q2⟩ := vals2 rr
        cases (show u2 = Value.ref a from q2)
        obtain ⟨P, Z, pz, hx⟩ := kit_of I q1 (tyN_ty hn r2 m)
        obtain ⟨its, rv, ⟨⟨oc, od, dt, sl⟩, h1, h2, nn, h3⟩, _⟩ := I.tuple (a := a) (xs := vs) (by first | exact .inl (.inr ⟨_, f⟩) | exact .inr f)
        have e3 := ClsV.all pc rv
        subst e3
        simp only at h2 h3
        subst h2 h3
        exact PySem.W.kia_tup Z I.kIn pz h1 kt hx fun tk => ⟨.bl _, H, I.tok tk, rfl, fin⟩
    · exact h.elim
  · exact h.elim

/-! ### repr -/
def rRepr : DL := fun ws s R => match ws with
  | [w] => (match pyOf s w with
    | some d => isDisplay d = true ∧ d.showable = true ∧ d.depth ≤ 60 ∧ d.shown.length ≤ 1000000 ∧ R (.str d.shown) s
    | none => False)
  | _ => False
theorem noDictD : ∀ {K : PySem.W.Frag} {H : Hp} {v : V} {d : PyData}, Dp K H v d → d.hasDict = false := by
  intro K H v d h
  refine Dp.rec (motive_1 := fun v d _ => d.hasDict = false) (motive_2 := fun vs ds _ => PyData.hasDictAll ds = false) ?_ ?_ ?_ ?_ ?_ ?_ ?_ ?_ h
  · simp [PyData.hasDict]
  · intro b; simp [PyData.hasDict]
  · intro b; simp [PyData.hasDict]
  · intro b; simp [PyData.hasDict]
  · intro a xs ds _ _ ih; simpa [PyData.hasDict] using ih
  · intro a xs ds _ _ ih; simpa [PyData.hasDict] using ih
  · simp [PyData.hasDictAll]
  · intro v vs d ds _ _ h1 h2; simp [PyData.hasDictAll, h1, h2]
theorem cd_repr {k : Nat} (hr : Room k X.A) (hg : X.A.guards = some []) : CallR X (.builtin "repr") (liftL X.K rRepr) := by
  intro pins s σ H xs us Q I rr ⟨ws, sg, R, r1, m, h, p⟩
  unfold rRepr at h
  split at h
  · rename_i w
    obtain ⟨v, r, rfl, r2, r3⟩ := r1
    cases (show r = [] from r3)
    split at h
    · rename_i d hd
      obtain ⟨c1, c2, c3, c4, c5⟩ := h
      have dp := pyOf_dp hd r2 m
      obtain ⟨u, rfl, ru⟩ := vals1 rr
      obtain ⟨as, rd⟩ := Dp.reads I d v u dp ru
      obtain ⟨a, rfl⟩ := isRef_of_reads rd c1
      have hu := hr.units
      exact repr_of_reads' rd c2 (PyData.noDict_hsm (noDictD dp)) hg (by omega) (fun _ _ e => e) (fun h' u' tk hk => ⟨.str d.shown, H, I.kept hk, ⟨u', rfl⟩, p _ _ _ _ c5 (.refl _ _) m rfl⟩) (Nat.le_trans c4 mil)
    · exact h.elim
  · exact h.elim

/-! ### new lists by calls -/
def tCBn (K : PySem.W.Frag) (r : List D → Sg → (List D → Sg → Prop) → Prop) (ta : DA) : DA := fun env s R => ta env s fun ws s1 => r ws s1 R
/-- what a call gives: a new list of these -/
def liftNL (K : PySem.W.Frag) (r : List D → Sg → (List D → Sg → Prop) → Prop) : List V → Hp → VK → Prop := fun xs H Q => ∃ ws s R, Reps K H ws xs ∧ MRep K H s ∧ r ws s R ∧ PostA K H s R fun vs H1 => ∀ p, H1 p = none → Q (.ref p) (upd H1 p (.lst vs))
abbrev DN := List D → Sg → (List D → Sg → Prop) → Prop
def dCN (r : DN) (ta : DA) : DA := fun env s R => ta env s fun ws s1 => r ws s1 R
theorem dCN_imp (K : PySem.W.Frag) (r : DN) (ta : DA) : ∀ σ H Q, tNew (liftA K (dCN r ta)) σ H Q → tCB (liftNL K r) (liftA K ta) σ H Q := fun σ H Q ⟨env, s, R, h1, h2, h3, h4⟩ =>
  ⟨env, s, _, h1, h2, h3, fun ws s1 vs H1 q e1 m1 r1 => ⟨ws, s1, R, r1, m1, q, h4.ext e1⟩⟩
section
variable {x : Str} {p pos : Pos} {e : Expr} {es : List Expr} {t : DA} {id T : String} {r : DN}
theorem nl_callB (hc : CallR X (.builtin id) (liftNL X.K r)) (hg : Gl X x) (hm : X.mg x = none) (hv : bootBuiltins x = some (.builtin id)) (ha : PDA X (e :: es) t) (hn : x ≠ "__name__" := by decide) (hdb : (x == ("__debug__" : Str)) = false := by decide)
    (he : starEach (e :: es) X.env = (false, eval e X.env) :: starEach es X.env := by rfl) (hpl : (backTo pos (starEach es X.env)).any (·.1) = false := by rfl) : PNL X (.Call (.Name x p) (e :: es) [] pos) (dCN r t) :=
  pe_imp (pe_callB hc hg hm hv ha hn hdb he hpl) (dCN_imp X.K r t)
theorem nl_callTy (hc : CallR X (.type T) (liftNL X.K r)) (hg : Gl X x) (hm : X.mg x = none) (hv : bootBuiltins x = some (.type T)) (ha : PDA X (e :: es) t) (hn : x ≠ "__name__" := by decide) (hdb : (x == ("__debug__" : Str)) = false := by decide)
    (he : starEach (e :: es) X.env = (false, eval e X.env) :: starEach es X.env := by rfl) (hpl : (backTo pos (starEach es X.env)).any (·.1) = false := by rfl) : PNL X (.Call (.Name x p) (e :: es) [] pos) (dCN r t) :=
  pe_imp (pe_callTy hc hg hm hv ha hn hdb he hpl) (dCN_imp X.K r t)
end
/-- list(x): of a list, a tuple, a text -/
def rListU : DN := fun ws s R => match ws with
  | [.str z] => z.length ≤ 1000000 ∧ R (z.cps.toList.map fun c => .str ⟨#[c]⟩) s
  | [w] => (match asQ s w with
    | some us => R us s
    | none => False)
  | _ => False
theorem cr_list_str (hc : X.calm = true) : CallR X (.type "list") (fun xs H Q => ∃ z : Str, xs = [.str z] ∧ z.length ≤ sizeLine ∧ ∀ p, H p = none → Q (.ref p) (upd H p (.lst (z.cps.toList.map fun c => .str ⟨#[c]⟩)))) := by
  intro pins s σ H xs us Q I r ⟨z, e, hz, q⟩
  subst e
  obtain ⟨u, rfl, t, rfl⟩ := vals1 r
  refine call_list_str (I.ok.hd hc) z t (hn := hz) fun h' tk acc c kp at_ its => ?_
  refine ⟨.ref _, _, I.laid (o := .lst (z.cps.toList.map fun c => .str ⟨#[c]⟩)) kp (Nat.le_refl _) ⟨by rw [List.length_map, Array.length_toList]; exact hz, acc.toList, c, ?_, by simpa using at_⟩, rfl, q _ I.fresh⟩
  have key : ∀ (j : Nat) (u : Value), acc.toList[j]? = some u → ∃ c, z.cps[j]? = some c ∧ RelV (.str ⟨#[c]⟩) u := fun j u hu => by
    obtain ⟨c, t, h1, rfl⟩ := its.2 j u (by simpa using hu)
    exact ⟨c, h1, t, rfl⟩
  have len : acc.toList.length = z.cps.toList.length := by simp [its.1]
  have gen : ∀ (cs : List Nat) (us : List Value), us.length = cs.length → (∀ (j : Nat) (u : Value), us[j]? = some u → ∃ c, cs[j]? = some c ∧ RelV (.str ⟨#[c]⟩) u) → Vals (cs.map fun c => V.str ⟨#[c]⟩) us := by
    intro cs
    induction cs with
    | nil => intro us h _; cases us with
      | nil => exact .nil
      | cons _ _ => cases h
    | cons c cs ih =>
      intro us h k
      cases us with
      | nil => cases h
      | cons u us =>
        obtain ⟨c', e1, e2⟩ := k 0 u rfl
        cases e1
        exact .cons e2 (ih us (Nat.succ.inj h) fun j u hu => k (j + 1) u hu)
  exact gen _ _ len fun j u hu => by obtain ⟨c, e1, e2⟩ := key j u hu; exact ⟨c, by simpa using e1, e2⟩
theorem Reps.chars {K : PySem.W.Frag} {H : Hp} : ∀ cs : List Nat, Reps K H (cs.map fun c => D.str ⟨#[c]⟩) (cs.map fun c => V.str ⟨#[c]⟩)
  | [] => rfl
  | c :: cs => ⟨_, _, rfl, rfl, Reps.chars cs⟩
theorem cd_list (hc : X.calm = true) : CallR X (.type "list") (liftNL X.K rListU) := by
  refine call_imp ((cr_list_str hc).or call_list_of) fun xs H Q ⟨ws, s, R, r1, m, h, p⟩ => ?_
  unfold rListU at h
  split at h
  · rename_i z
    obtain ⟨v, r, rfl, r2, r3⟩ := r1
    cases (show r = [] from r3)
    exact .inl ⟨z, by rw [(show v = .str z from r2)], Nat.le_trans h.1 mil, p _ _ _ _ h.2 (.refl _ _) m (Reps.chars _)⟩
  · rename_i w _
    obtain ⟨v, r, rfl, r2, r3⟩ := r1
    cases (show r = [] from r3)
    split at h
    · rename_i us hu
      obtain ⟨a, vs, rfl, f, g⟩ := asQ_sq hu r2 m
      exact .inr ⟨a, vs, rfl, f, p _ _ _ _ h (.refl _ _) m g⟩
    · exact h.elim
  · exact h.elim
/-- sorted of texts, of ints -/
def rSortS : DN := fun ws s R => ∃ (w : D) (xs : List Str), ws = [w] ∧ asL s w = some (xs.map D.str) ∧ xs.length < 64 ∧ ∀ ys : List Str, ys.Perm xs → sortedS ys = true → R (ys.map D.str) s
theorem cd_sortS : CallR X (.builtin "sorted") (liftNL X.K rSortS) := by
  refine call_imp cr_sortedS fun vs H Q ⟨ws, s, R, r1, m, h, p⟩ => ?_
  obtain ⟨w, xs, rfl, hw, hl, h⟩ := h
  obtain ⟨v, r, rfl, r2, r3⟩ := r1
  cases (show r = [] from r3)
  obtain ⟨a, us, rfl, f, g⟩ := asL_sq hw r2 m
  cases g.strs
  exact ⟨a, xs, rfl, f, hl, fun ys q p1 p2 hq => p _ _ _ _ (h ys p1 p2) (.refl _ _) m Reps.ofStrs q hq⟩

/-! ### methods of lists that may change -/
def trk (x : D) (s : Sg) (k : Addr → List D → Prop) : Prop := match x with
  | .ref l => (match s.M l with
    | some (.lst ws) => k l ws
    | _ => False)
  | _ => False
theorem trk_ok {x : D} {s : Sg} {k : Addr → List D → Prop} (h : trk x s k) : ∃ l ws, x = .ref l ∧ s.M l = some (.lst ws) ∧ k l ws := by
  unfold trk at h
  split at h
  · rename_i l
    split at h
    · rename_i ws e
      exact ⟨l, ws, rfl, e, h⟩
    · exact h.elim
  · exact h.elim
def dAppend (to ta : DE) : DE := fun env s R => to env s fun x s1 => trk x s1 fun _ _ => ta env s1 fun y s2 => trk x s2 fun l ws => ws.length < 1000000 ∧ R .non (s2.put l (.lst (ws ++ [y])))
theorem mrep_put {K : PySem.W.Frag} {H : Hp} {s : Sg} {l : Addr} {ws us : List D} {ts : List V} (m : MRep K H s) (hm : s.M l = some (.lst ws)) (r : Reps K H us ts) : MRep K (upd H l (.lst ts)) (s.put l (.lst us)) ∧ Stp H s (upd H l (.lst ts)) (s.put l (.lst us)) := by
  have mu := (m.at_ l _ hm).mut
  exact ⟨m.write (.inr ⟨_, hm, fun _ => nofun⟩) (fun _ => nofun) ⟨ts, upd_same, Reps.ext (.put mu) _ _ r⟩, .put (.inr ⟨mu, by rw [hm]; simp⟩)⟩
theorem ty_trk {K : PySem.W.Frag} {H : Hp} {s : Sg} {l : Addr} {ws : List D} (m : MRep K H s) (hm : s.M l = some (.lst ws)) : tyV K "list" (.ref l) H := by
  obtain ⟨vs, z, _⟩ := m.at_ l _ hm
  exact .inl ⟨rfl, vs, .of z⟩
section
variable {o a : Expr} {to ta : DE} {apos cpos : Pos}
theorem pd_append (ho : PD X o to) (ha : PD X a ta) (hbase : attributeBase o "append" X.env (eval o X.env) = eval o X.env := by rfl)
    (hfew : ((backTo cpos (starEach [a] X.env)).all (fun x => !x.1) && (backToKw cpos (keywordEach [] X.env)).all (fun x => x.1.isSome) && decide (([a] : List Expr).length + ([] : List Keyword).length + (if ([] : List Keyword).isEmpty then 0 else 1) < 30)) = true := by rfl)
    (hline : (apos.endLine == cpos.line) = true := by rfl) (hs : starEach [a] X.env = (false, eval a X.env) :: starEach [] X.env := by rfl) :
    PD X (.Call (.Attribute o "append" apos) [a] [] cpos) (dAppend to ta) :=
  pe_imp (pe_bm PySem.F.plainAttrs_list PySem.F.slot_list_append PySem.F.type_list_append mt_append ho (pda_cons ha pda_nil hs) hbase hfew hline hs) fun σ H Q ⟨env, s, R, h1, h2, h3, h4⟩ => by
    refine ⟨env, s, _, h1, h2, h3, fun x s1 v H1 q e1 m1 r1 => ?_⟩
    obtain ⟨l, ws, rfl, hm, q⟩ := trk_ok q
    cases (show v = .ref l from r1)
    refine ⟨ty_trk m1 hm, env, s1, (fun zs s2 => match zs with
      | [y] => trk (.ref l) s2 fun l ws => ws.length < 1000000 ∧ R .non (s2.put l (.lst (ws ++ [y])))
      | _ => False), h1.ext e1.ext, m1, q, fun zs s3 us H3 q3 e3 m3 r3 => ?_⟩
    dsimp only at q3
    split at q3
    · rename_i y
      obtain ⟨u, ur, rfl, r2, r4⟩ := r3
      cases (show ur = [] from r4)
      obtain ⟨l', ws', e, hm3, c1, c2⟩ := trk_ok q3
      cases e
      obtain ⟨ts, z1, z2⟩ := m3.at_ l _ hm3
      have rs := Reps.append z2 (show Reps X.K H3 [y] [u] from ⟨u, [], rfl, r2, rfl⟩)
      obtain ⟨n1, n2⟩ := mrep_put m3 hm3 rs
      exact ⟨l, ts, u, rfl, rfl, z1, by rw [← z2.len]; exact mil1 c1, h4 _ _ _ _ c2 ((e1.trans e3).trans n2) n1 rfl⟩
    · exact q3.elim
def dPop (to : DE) : DE := fun env s R => to env s fun x s1 => trk x s1 fun l ws => match ws[ws.length - 1]? with
  | some y => R y (s1.put l (.lst ws.dropLast))
  | none => False
theorem Reps.dropLast {K : PySem.W.Frag} {H : Hp} {ws : List D} {vs : List V} (r : Reps K H ws vs) : Reps K H ws.dropLast vs.dropLast := by
  rw [List.dropLast_eq_take, List.dropLast_eq_take, r.len]
  exact r.take _
theorem pd_pop (ho : PD X o to) (hbase : attributeBase o "pop" X.env (eval o X.env) = eval o X.env := by rfl) (hline : (apos.endLine == cpos.line) = true := by rfl) : PD X (.Call (.Attribute o "pop" apos) [] [] cpos) (dPop to) :=
  pe_imp (pe_bm0 PySem.F.plainAttrs_list PySem.F.slot_list_pop PySem.F.type_list_pop mt_pop ho hbase hline) fun σ H Q ⟨env, s, R, h1, h2, h3, h4⟩ => by
    refine ⟨env, s, _, h1, h2, h3, fun x s1 v H1 q e1 m1 r1 => ?_⟩
    obtain ⟨l, ws, rfl, hm, q⟩ := trk_ok q
    cases (show v = .ref l from r1)
    split at q
    · rename_i y hy
      obtain ⟨ts, z1, z2⟩ := m1.at_ l _ hm
      obtain ⟨u, hu, ru⟩ := z2.get hy
      rw [z2.len] at hu
      obtain ⟨n1, n2⟩ := mrep_put m1 hm z2.dropLast
      exact ⟨ty_trk m1 hm, l, ts, u, rfl, rfl, z1, hu, h4 _ _ _ _ q (e1.trans n2) n1 (Rep.ext n2.ext _ _ ru)⟩
    · exact q.elim
def rPopAtD (l : Addr) (R : KD) (y : D) (s2 : Sg) : Prop := trk (.ref l) s2 fun l ws => ws.length ≤ 1000000 ∧ match y with
  | .int i => (match ixN ws.length i with
    | some k => (match ws[k]? with
      | some z => R z (s2.put l (.lst (ws.eraseIdx k)))
      | none => False)
    | none => False)
  | _ => False
def dPopAt (to ta : DE) : DE := fun env s R => to env s fun x s1 => trk x s1 fun l _ => ta env s1 fun y s2 => rPopAtD l R y s2
theorem pd_popAt (ho : PD X o to) (ha : PD X a ta) (hbase : attributeBase o "pop" X.env (eval o X.env) = eval o X.env := by rfl)
    (hfew : ((backTo cpos (starEach [a] X.env)).all (fun x => !x.1) && (backToKw cpos (keywordEach [] X.env)).all (fun x => x.1.isSome) && decide (([a] : List Expr).length + ([] : List Keyword).length + (if ([] : List Keyword).isEmpty then 0 else 1) < 30)) = true := by rfl)
    (hline : (apos.endLine == cpos.line) = true := by rfl) (hs : starEach [a] X.env = (false, eval a X.env) :: starEach [] X.env := by rfl) :
    PD X (.Call (.Attribute o "pop" apos) [a] [] cpos) (dPopAt to ta) :=
  pe_imp (pe_bm PySem.F.plainAttrs_list PySem.F.slot_list_pop PySem.F.type_list_pop mt_popAt ho (pda_cons ha pda_nil hs) hbase hfew hline hs) fun σ H Q ⟨env, s, R, h1, h2, h3, h4⟩ => by
    refine ⟨env, s, _, h1, h2, h3, fun x s1 v H1 q e1 m1 r1 => ?_⟩
    obtain ⟨l, ws, rfl, hm, q⟩ := trk_ok q
    cases (show v = .ref l from r1)
    refine ⟨ty_trk m1 hm, env, s1, (fun zs s2 => match zs with
      | [y] => rPopAtD l R y s2
      | _ => False), h1.ext e1.ext, m1, q, fun zs s3 us H3 q3 e3 m3 r3 => ?_⟩
    dsimp only at q3
    split at q3
    · rename_i y
      obtain ⟨u, ur, rfl, r2, r4⟩ := r3
      cases (show ur = [] from r4)
      obtain ⟨l', ws', e, hm3, c0, c⟩ := trk_ok q3
      cases e
      split at c
      · rename_i i
        cases (show u = .int i from r2)
        split at c
        · rename_i k hk
          split at c
          · rename_i z hz
            obtain ⟨ts, z1, z2⟩ := m3.at_ l _ hm3
            obtain ⟨t, ht, rt⟩ := z2.get hz
            rw [z2.len] at hk
            obtain ⟨g1, g2, g3, g4⟩ := ixN_seq hk
            have hz : ts.length ≤ 1000000 := by rw [← z2.len]; exact c0
            obtain ⟨n1, n2⟩ := mrep_put m3 hm3 (z2.erase k)
            exact ⟨l, ts, i, k, t, rfl, rfl, z1, by omega, by omega, g1, ht, h4 _ _ _ _ c ((e1.trans e3).trans n2) n1 (Rep.ext n2.ext _ _ rt)⟩
          · exact c.elim
        · exact c.elim
      · exact c.elim
    · exact q3.elim
end
/-! ### xs[i] = v -/
def dSetIx (tv to ti : DE) : DS := fun DD env s => tv env s fun v s1 => to env s1 fun x s2 => ti env s2 fun y s3 => trk x s3 fun l ws => match y with
  | .int i => (match ixN ws.length i with
    | some k => DD.nx env (s3.put l (.lst (ws.set k v)))
    | none => False)
  | _ => False
theorem pd_setIx {o i e : Expr} {to ti te : DE} {ps pos : Pos} (he : PD X e te) (ho : PD X o to) (hi : PD X i ti)
    (ha : ∀ v, assign (.Subscript o i ps) X.env v = (do
      let ov ← holding [v] (eval o X.env)
      let iv ← holding [v, ov] (eval i X.env)
      standAt ps
      holding [v, ov, iv] (setItem ov iv v)
      release [v, ov, iv] []) := by intro _; rfl)
    (hs : swapsWithSole [.Subscript o i ps] e pos.line X.env = pure false := by rfl) (hw : swappedStores [.Subscript o i ps] e X.env = pure none := by rfl)
    (h1 : (assignEach [.Subscript o i ps] X.env).map (·.2) = [assign (.Subscript o i ps) X.env] := by rfl) : PDS X (.Assign [.Subscript o i ps] e pos) (dSetIx te to ti) :=
  ps_imp (ps_asg he (pg_sub ho hi set_list ha) hs hw h1) fun D0 σ H ⟨env, s, DD, h1, h2, h3, h4⟩ => by
    refine ⟨env, s, _, h1, h2, h3, fun v s1 vv H1 q1 e1 m1 r1 => ⟨env, s1, _, h1.ext e1.ext, m1, q1, fun x s2 xv H2 q2 e2 m2 r2 => ⟨env, s2, _, (h1.ext e1.ext).ext e2.ext, m2, q2, fun y s3 yv H3 q3 e3 m3 r3 => ?_⟩⟩⟩
    obtain ⟨l, ws, rfl, hm, c⟩ := trk_ok q3
    split at c
    · rename_i i
      split at c
      · rename_i k hk
        cases (show xv = .ref l from r2)
        cases (show yv = .int i from r3)
        obtain ⟨ts, z1, z2⟩ := m3.at_ l _ hm
        rw [z2.len] at hk
        have rv := Rep.ext e3.ext _ _ (Rep.ext e2.ext _ _ r1)
        obtain ⟨n1, n2⟩ := mrep_put m3 hm (z2.set rv k)
        have et := ((e1.trans e2).trans e3).trans n2
        exact ⟨l, ts, i, k, rfl, rfl, z1, hk, h4.nx _ _ _ _ c et n1 (h1.ext et.ext)⟩
      · exact c.elim
    · exact c.elim
/-! ### sep.join(xs) -/
def rJoin (a : Str) (R : KD) (y : D) (s2 : Sg) : Prop := ∃ ys : List Str, asQ s2 y = some (ys.map D.str) ∧ (ys.map (·.length)).sum + ys.length * a.length ≤ 1000000 ∧ R (.str (Txt.join a ys)) s2
def dJoin (to ta : DE) : DE := fun env s R => to env s fun x s1 => match x with
  | .str a => ta env s1 fun y s2 => rJoin a R y s2
  | _ => False
theorem pd_join {o a : Expr} {to ta : DE} {apos cpos : Pos} (ho : PD X o to) (ha : PD X a ta) (hbase : attributeBase o "join" X.env (eval o X.env) = eval o X.env := by rfl)
    (hfew : ((backTo cpos (starEach [a] X.env)).all (fun x => !x.1) && (backToKw cpos (keywordEach [] X.env)).all (fun x => x.1.isSome) && decide (([a] : List Expr).length + ([] : List Keyword).length + (if ([] : List Keyword).isEmpty then 0 else 1) < 30)) = true := by rfl)
    (hline : (apos.endLine == cpos.line) = true := by rfl) (hs : starEach [a] X.env = (false, eval a X.env) :: starEach [] X.env := by rfl) :
    PD X (.Call (.Attribute o "join" apos) [a] [] cpos) (dJoin to ta) :=
  pe_imp (pe_bm PySem.F.plainAttrs_str PySem.F.slot_str_join PySem.F.type_str_join mt_join ho (pda_cons ha pda_nil hs) hbase hfew hline hs) fun σ H Q ⟨env, s, R, h1, h2, h3, h4⟩ => by
    refine ⟨env, s, _, h1, h2, h3, fun x s1 v H1 q e1 m1 r1 => ?_⟩
    split at q
    · rename_i z
      cases (show v = .str z from r1)
      refine ⟨rfl, env, s1, (fun zs s2 => match zs with
        | [y] => rJoin z R y s2
        | _ => False), h1.ext e1.ext, m1, q, fun zs s3 us H3 q3 e3 m3 r3 => ?_⟩
      dsimp only at q3
      split at q3
      · rename_i y
        obtain ⟨u, ur, rfl, r2, r4⟩ := r3
        cases (show ur = [] from r4)
        obtain ⟨ys, hy, hl, c⟩ := q3
        obtain ⟨b, vs, rfl, f, g⟩ := asQ_sq hy r2 m3
        cases g.strs
        exact ⟨z, b, ys, rfl, rfl, f, Nat.le_trans hl (by decide), h4 _ _ _ _ c (e1.trans e3) m3 rfl⟩
      · exact q3.elim
    · exact q.elim
end
end Dz
namespace Dz
open PySem PySem.Spec PyProof.Rows L2

/-! ### defs: where no repr is running -/
structure FnG (P : Program) (w : World) (K : PySem.W.Frag) (mg : Str → Option Value) (base : Heap) (CX : CXT) (k : Nat) (f : Addr) (fd : FuncData) (ps : List Str) (sp : Sp) : Prop where
  len : ∀ vs H Q E, sp vs H Q E → vs.length = ps.length
  run : ∀ (A : Around) (outer : List Env) (s : Shared) (H : Hp) (args : Args) (us : List Value) (vs : List V) (Q : VK) (E : XK), Room k A → A.guards = some [] → Env0 P w K mg base A outer s H → BindsTo s fd args (ps.zip us) → Vals vs us → sp vs H Q E →
    codeAny (model P w) A (.call (.ref f) args) (CR CX outer P w H s Q E) s
section
variable {P : Program} {w : World} {K : PySem.W.Frag} {mg : Str → Option Value} {base : Heap} {CX : CXT} {j k : Nat} {f : Addr} {fd : FuncData} {ps : List Str} {sp sp' : Sp}
theorem FnG.mono (F : FnG P w K mg base CX j f fd ps sp) (h : j ≤ k) : FnG P w K mg base CX k f fd ps sp := ⟨F.len, fun A outer s H args us vs Q E hr => F.run A outer s H args us vs Q E (hr.mono h)⟩
theorem FnG.imp (F : FnG P w K mg base CX k f fd ps sp) (h : ∀ vs H Q E, sp' vs H Q E → sp vs H Q E) : FnG P w K mg base CX k f fd ps sp' :=
  ⟨fun vs H Q E q => F.len vs H Q E (h _ _ _ _ q), fun A outer s H args us vs Q E hr hg he hb hv hs => F.run A outer s H args us vs Q E hr hg he hb hv (h _ _ _ _ hs)⟩
/-- a def of the text, by its body -/
theorem fnG_of {x qual : Str} {params : Arguments} {body : List Stmt} {scope : Scope} {dvs : List V} {kws : List (Str × V)} {N : List Str} (F : FunD K x qual params body scope dvs kws f fd) (S : FnScope N ps scope) (len : ∀ vs H Q E, sp vs H Q E → vs.length = ps.length)
    (hb : ∀ (cdv : Value) (A : Around) (outer : List Env) (s : Shared) (H : Hp) (vs : List V) (Q : VK) (E : XK), Room k (A.deeper (envOfC qual scope s.heap.objs.size f cdv)) → (A.deeper (envOfC qual scope s.heap.objs.size f cdv)).guards = some [] → sp vs H Q E →
      ∃ t, PSs (cxOf CX P w K mg base N qual scope f cdv A outer s H E) body t ∧ t { nx := fun _ H' => Q .non H', rt := Q } (L2.start N vs) H) : FnG P w K mg base CX (k + 1) f fd ps sp := by
  obtain ⟨oc, od, dV, kV, doc, pm, an, cdv, ct, osl, rfl, lk, hcd, _, _⟩ := F.ex
  refine ⟨len, fun A outer s H args us vs Q E hr hg e0 hbd r hsp => ?_⟩
  have up : ∀ b o, base.get? b = some o → s.heap.get? b = some o := fun b o e => (e0.bs b o e).1
  have KX : K.In s.heap := e0.mod.kin.keeps up
  have hkind : ∀ y ∈ ps.zip us, scope.names.lookup y.1 = some .local ∨ (scope.names.lookup y.1 = some .cell ∧ ((cellsFrom (s.heap.objs.size + 1) scope.names []).lookup y.1).isSome = true) := by
    rintro ⟨n, v⟩ hy
    exact (S.par n (List.of_mem_zip hy).1).imp (fun q => q) fun q => ⟨q, PySem.W.cellsFrom_some _ _ _ (.inl q)⟩
  apply codeAny_call_function hr.depth (KX _ _ lk) rfl S.co S.gen rfl (PySem.W.codeRec_of KX hcd)
  apply hbd
  apply wpAny_newFunctionEnv_cells S.kind hkind
  rintro env rfl s1 x
  refine ⟨(e0.mod.nolimit.keeps up).keeps x.toInCall.keep, codeAny_func ?_⟩
  obtain ⟨t, ht, hq⟩ := hb cdv A outer s H vs Q E (hr.deeper _) hg hsp
  have I := inv_start (CX := CX) (E := E) S hr.hd e0 (len _ _ _ _ hsp) r x
  refine wpAny_mono (ht.run [] s1 _ H _ I hq) ?_ fun e s' hs => hs
  rintro (_ | _ | _ | u) s' hs
  · obtain ⟨σ', H', J, q⟩ := hs
    exact ⟨.non, H', J.os, J.bare, J.base, J.hok, rfl, q⟩
  all_goals first
    | (obtain ⟨v, σ', H', J, rv, q⟩ := hs; exact ⟨v, H', J.os, J.bare, J.base, J.hok, rv, q⟩)
    | (obtain ⟨_, _, _, q⟩ := hs; exact q.elim)
end
section
variable {X : Cx} {CX : CXT} {k : Nat} {f : Addr} {fd : FuncData} {ps : List Str} {sp : Sp} {dvs : List V} {ds : List Value} {E : XK}
theorem run_fnG {pins : List (Addr × Obj)} {σ : L2.St} {H : Hp} {s : Shared} {Q : VK} {us : List Value} {vs : List V} (F : FnG X.prog X.w X.K X.mg X.base CX k f fd ps sp) (hr : Room k X.A) (hg : X.A.guards = some []) (hb : Binds X.K fd ps ds) (hd : Vals dvs ds) (hx : Passes CX X E)
    (I : Inv X pins σ H s) (r : Vals vs us) (h : sp (vs ++ dvs) H Q E) : wpAny (model X.prog X.w) X.A (call (.ref f) us) (EP X pins σ Q) X.xe s := by
  have r2 := r.append hd
  have hl : (us ++ ds).length = ps.length := r2.length.symm.trans (F.len _ _ _ _ h)
  refine wpAny_call (codeAny_mono (F.run X.A X.stack s H ⟨us, []⟩ _ _ Q E hr hg I.env0 (hb s us I.kIn hl) r2 h) ?_)
  rintro (e | (_ | _ | _ | u)) s' hq
  · exact hx pins σ H s e s' I hq
  all_goals first
    | exact I.after hq
    | exact False.elim hq
theorem pe_callG {x : Str} {p pos : Pos} {e : Expr} {es : List Expr} {t : TA} (F : FnG X.prog X.w X.K X.mg X.base CX k f fd ps sp) (hr : Room k X.A) (hgd : X.A.guards = some []) (hg : Gl X x) (hm : X.mg x = some (.ref f)) (hk : PySem.W.keepIn X.K (.ref f) = true) (hb : Binds X.K fd ps ds) (hd : Vals dvs ds) (hx : Passes CX X E)
    (ha : PA X (e :: es) t) (hdb : (x == ("__debug__" : Str)) = false := by decide) (he : starEach (e :: es) X.env = (false, eval e X.env) :: starEach es X.env := by rfl) (hpl : (backTo pos (starEach es X.env)).any (·.1) = false := by rfl) :
    PE X (.Call (.Name x p) (e :: es) [] pos) (tCall sp dvs E t) :=
  ⟨fun pins s σ H Q I h => wpAny_Call_Name_kw (ld_glob I hg hm (PySem.W.callWith_K (h₀ := X.base) I.ok.mod.kin hk (thn (ha.run pos pins s σ H _ I h) fun us s1 ⟨vs, H1, I1, r, q⟩ => ⟨I1.kIn, run_fnG F hr hgd hb hd hx I1 r q⟩) he hpl) hdb)⟩
theorem pe_callG0 {x : Str} {p pos : Pos} (F : FnG X.prog X.w X.K X.mg X.base CX k f fd ps sp) (hr : Room k X.A) (hgd : X.A.guards = some []) (hg : Gl X x) (hm : X.mg x = some (.ref f)) (hk : PySem.W.keepIn X.K (.ref f) = true) (hb : Binds X.K fd ps ds) (hd : Vals dvs ds) (hx : Passes CX X E)
    (hdb : (x == ("__debug__" : Str)) = false := by decide) : PE X (.Call (.Name x p) [] [] pos) (tCall sp dvs E tNil) :=
  ⟨fun pins s σ H Q I h => wpAny_Call_Name_kw (ld_glob I hg hm (PySem.W.callWith_K0 I.kIn hk (run_fnG (us := []) F hr hgd hb hd hx I .nil h)) hdb)⟩
end

/-! ### deep promises; an exception: its class, its fields -/
abbrev XD := Value → List (Str × D) → Sg → Prop
abbrev SpD := List D → Sg → KD → XD → Prop
def FldAt (K : PySem.W.Frag) (H : Hp) (d : Option Addr) (fs : List (Str × D)) : Prop := (d = none ∧ fs = []) ∨ ∃ a vs, d = some a ∧ H a = some (.xd ((fs.map (·.1)).zip vs)) ∧ Reps K H (fs.map (·.2)) vs
def PostX (K : PySem.W.Frag) (H : Hp) (s0 : Sg) (E : XD) (F : XK) : Prop := ∀ cls fs s d H', E cls fs s → Stp H s0 H' s → MRep K H' s → FldAt K H' d fs → F cls d H'
theorem PostX.ext {K : PySem.W.Frag} {H H1 : Hp} {s0 s1 : Sg} {E : XD} {F : XK} (e : Stp H s0 H1 s1) (p : PostX K H s0 E F) : PostX K H1 s1 E F := fun c fs s d H' a b m q => p c fs s d H' a (e.trans b) m q
def liftSp (K : PySem.W.Frag) (sp : SpD) : Sp := fun vs H Q E => ∃ ws s R E', Reps K H ws vs ∧ MRep K H s ∧ sp ws s R E' ∧ Post K H s R Q ∧ PostX K H s E' E
abbrev X0 : XD := fun _ _ _ => False
theorem postX0 {K : PySem.W.Frag} {H : Hp} {s : Sg} {F : XK} : PostX K H s X0 F := fun _ _ _ _ _ h => h.elim
/-- what a body may end with: less may be said than is known -/
structure Less (s s' : Sg) : Prop where
  m : ∀ a o, s'.M a = some o → s.M a = some o
  n : s'.n ≤ s.n
  v : s'.pv = s.pv
theorem Less.refl (s : Sg) : Less s s := ⟨fun _ _ h => h, Nat.le_refl _, rfl⟩
theorem Less.put {s : Sg} {p : Addr} {o : MO} (h : s.M p = none) : Less (s.put p o) s := ⟨fun a u e => by rw [show (s.put p o).M a = s.M a from Mm.put_ne fun z => by subst z; rw [h] at e; cases e]; exact e, Nat.le_refl _, rfl⟩
theorem Less.trans {a b c : Sg} (h : Less a b) (g : Less b c) : Less a c := ⟨fun x o e => h.m x o (g.m x o e), Nat.le_trans g.n h.n, g.v.trans h.v⟩
/-- a state that is known may be told as another one -/
def Clo (s s' : Sg) : Prop := ∀ K H, MRep K H s → MRep K H s' ∧ Stp H s H s'
theorem Less.clo {s s' : Sg} (l : Less s s') : Clo s s' := fun K H m => ⟨m.weak l.m l.n l.v, .weak l.m l.v⟩
theorem Clo.refl (s : Sg) : Clo s s := (Less.refl s).clo
theorem Clo.trans {a b c : Sg} (h : Clo a b) (g : Clo b c) : Clo a c := fun K H m => by
  obtain ⟨m1, e1⟩ := h K H m
  obtain ⟨m2, e2⟩ := g K H m1
  exact ⟨m2, e1.trans e2⟩
def Lw (R : KD) : KD := fun w s => ∃ s', Clo s s' ∧ R w s'
theorem Lw.of {R : KD} {w : D} {s : Sg} (h : R w s) : Lw R w s := ⟨s, .refl s, h⟩
theorem Post.lw {K : PySem.W.Frag} {H : Hp} {s : Sg} {R : KD} {Q : VK} (p : Post K H s R Q) : Post K H s (Lw R) Q := fun w s1 v H' ⟨s', l, q⟩ e m r => by
  obtain ⟨m1, e1⟩ := l K H' m
  exact p w s' v H' q (e.trans e1) m1 r
/-! opening and closing the box -/
def rawM (M : Mm) : Bx → List Addr → Mm
  | .inr ns :: r, a :: as => (rawM M r as).put a (.lst (ns.map D.int))
  | .inl _ :: r, as => rawM M r as
  | _, _ => M
def rawV : Bx → List Addr → List D
  | .inr _ :: r, a :: as => .ref a :: rawV r as
  | .inl i :: r, as => .int i :: rawV r as
  | _, _ => []
def RawAt (M : Mm) : Bx → List Addr → Prop
  | .inr ns :: r, a :: as => M a = some (.lst (ns.map D.int)) ∧ RawAt M r as
  | .inl _ :: r, as => RawAt M r as
  | [], as => as = []
  | _, _ => False
theorem BxAt.raw {K : PySem.W.Frag} {H : Hp} : ∀ {st : Bx} {vs : List V} {as : List Addr}, BxAt H st vs as → Reps K H (rawV st as) vs
  | [], vs, as, h => by obtain ⟨rfl, rfl⟩ := h; rfl
  | .inl i :: r, vs, as, h => by obtain ⟨vs', rfl, h'⟩ := h; exact ⟨_, _, rfl, rfl, BxAt.raw h'⟩
  | .inr ns :: r, vs, as, h => by obtain ⟨a, vs', as', rfl, rfl, e, h'⟩ := h; exact ⟨_, _, rfl, rfl, BxAt.raw h'⟩
theorem rawM_off {M : Mm} : ∀ {st : Bx} {as : List Addr} {b : Addr}, b ∉ as → rawM M st as b = M b
  | [], as, b, h => rfl
  | .inl i :: r, as, b, h => rawM_off (st := r) h
  | .inr ns :: r, [], b, h => rfl
  | .inr ns :: r, a :: as, b, h => by
    show (rawM M r as).put a _ b = _
    rw [Mm.put_ne (fun e => h (by rw [e]; exact List.mem_cons_self)), rawM_off fun q => h (List.mem_cons_of_mem _ q)]
theorem BxAt.rawAt {H : Hp} {M : Mm} : ∀ {st : Bx} {vs : List V} {as : List Addr}, BxAt H st vs as → as.Nodup → RawAt (rawM M st as) st as ∧ ∀ b ∈ as, ∃ ns : List Int, rawM M st as b = some (.lst (ns.map D.int)) ∧ H b = some (.lst (ns.map V.int))
  | [], vs, as, h, _ => by obtain ⟨rfl, rfl⟩ := h; exact ⟨rfl, fun b hb => nomatch hb⟩
  | .inl i :: r, vs, as, h, nd => by
    obtain ⟨vs', rfl, h'⟩ := h
    have g := BxAt.rawAt (M := M) h' nd
    exact ⟨by cases as <;> exact g.1, by cases as <;> exact g.2⟩
  | .inr ns :: r, vs, as, h, nd => by
    obtain ⟨a, vs', as', rfl, rfl, e, h'⟩ := h
    obtain ⟨n1, n2⟩ := List.nodup_cons.mp nd
    obtain ⟨g1, g2⟩ := BxAt.rawAt (M := M) h' n2
    have ne : ∀ b ∈ as', b ≠ a := fun b hb q => n1 (q ▸ hb)
    have up : ∀ {st : Bx} {bs : List Addr}, (∀ b ∈ bs, b ≠ a) → RawAt (rawM M r as') st bs → RawAt ((rawM M r as').put a (.lst (ns.map D.int))) st bs := by
      intro st
      induction st with
      | nil => intro bs _ h; cases bs <;> first | exact h | cases h
      | cons x st ih =>
        intro bs hb h
        cases x with
        | inl i => exact ih hb h
        | inr ms =>
          cases bs with
          | nil => exact h.elim
          | cons b bs => exact ⟨by rw [Mm.put_ne (hb b List.mem_cons_self)]; exact h.1, ih (fun c hc => hb c (List.mem_cons_of_mem _ hc)) h.2⟩
    refine ⟨⟨Mm.put_same, up ne g1⟩, fun b hb => ?_⟩
    rcases List.mem_cons.mp hb with rfl | hb
    · exact ⟨ns, Mm.put_same, e⟩
    · obtain ⟨ms, q1, q2⟩ := g2 b hb
      exact ⟨ms, by rw [show rawM M (.inr ns :: r) (a :: as') b = rawM M r as' b from Mm.put_ne (ne b hb)]; exact q1, q2⟩
/-- the box is opened -/
theorem box_open {K : PySem.W.Frag} {H : Hp} {s : Sg} {p : Addr} {I : Nat → Bx → Prop} (m : MRep K H s) (h : s.M p = some (.box I)) :
    ∃ st, (∃ k, s.n ≤ k ∧ I k st) ∧ s.pv.Nodup ∧ p ∉ s.pv ∧ (∀ b ∈ s.pv, s.M b = none) ∧ RawAt (rawM s.M st s.pv) st s.pv ∧
      MRep K H ⟨(rawM s.M st s.pv).put p (.lst (rawV st s.pv)), s.n, []⟩ ∧ Stp H s H ⟨(rawM s.M st s.pv).put p (.lst (rawV st s.pv)), s.n, []⟩ := by
  obtain ⟨st, vs, hI, h1, h2, h3⟩ := m.at_ p _ h
  obtain ⟨g1, g2⟩ := BxAt.rawAt (M := s.M) h2 h3
  have np : p ∉ s.pv := fun q => by rw [(m.pvs p q).2] at h; cases h
  refine ⟨st, hI, h3, np, fun b hb => (m.pvs b hb).2, g1, ⟨fun a o e => ?_, fun a b J1 J2 e1 e2 => ?_, fun b hb => nomatch hb⟩, ⟨.refl _, fun b o h4 h5 h6 h7 => ⟨h4, ?_, fun q => nomatch q⟩⟩⟩
  · dsimp only at e
    by_cases ha : a = p
    · subst ha
      rw [show (rawM s.M st s.pv).put a (.lst (rawV st s.pv)) a = _ from Mm.put_same] at e
      cases e
      exact ⟨vs, h1, h2.raw⟩
    · rw [show (rawM s.M st s.pv).put p (.lst (rawV st s.pv)) a = _ from Mm.put_ne ha] at e
      by_cases hv : a ∈ s.pv
      · obtain ⟨ns, q1, q2⟩ := g2 a hv
        rw [q1] at e
        cases e
        exact ⟨_, q2, Reps.ofInts⟩
      · rw [rawM_off hv] at e
        have q := m.at_ a o e
        cases o with
        | lst ws => exact q
        | dic ks ws => exact q
        | ins C ns ws => exact q
        | box J => exact absurd (m.one a p J I e h) ha
  · have key : ∀ a J, (rawM s.M st s.pv).put p (.lst (rawV st s.pv)) a = some (.box J) → False := fun a J e => by
      by_cases ha : a = p
      · subst ha
        rw [Mm.put_same] at e
        cases e
      · rw [Mm.put_ne ha] at e
        by_cases hv : a ∈ s.pv
        · obtain ⟨ns, q1, q2⟩ := g2 a hv
          rw [q1] at e
          cases e
        · rw [rawM_off hv] at e
          exact ha (m.one a p J I e h)
    exact (key a J1 e1).elim
  · have nbp : b ≠ p := fun q => by subst q; rw [h] at h6; cases h6
    dsimp only
    rw [show (rawM s.M st s.pv).put p (.lst (rawV st s.pv)) b = _ from Mm.put_ne nbp, rawM_off h7]
    exact h6
theorem RawAt.bx {K : PySem.W.Frag} {H : Hp} {s : Sg} (m : MRep K H s) : ∀ {st : Bx} {as : List Addr} {vs : List V}, RawAt s.M st as → Reps K H (rawV st as) vs → BxAt H st vs as ∧ ∀ b ∈ as, ∃ ns : List Int, s.M b = some (.lst (ns.map D.int))
  | [], as, vs, h, r => by
    cases (show as = [] from h)
    cases (show vs = [] from r)
    exact ⟨⟨rfl, rfl⟩, fun b hb => nomatch hb⟩
  | .inl i :: st, as, vs, h, r => by
    obtain ⟨v, vs', rfl, r1, r2⟩ := r
    cases (show v = .int i from r1)
    obtain ⟨g1, g2⟩ := RawAt.bx m (st := st) h r2
    exact ⟨⟨vs', rfl, g1⟩, g2⟩
  | .inr ns :: st, [], vs, h, r => h.elim
  | .inr ns :: st, a :: as, vs, h, r => by
    obtain ⟨v, vs', rfl, r1, r2⟩ := r
    cases (show v = .ref a from r1)
    obtain ⟨g1, g2⟩ := RawAt.bx m (st := st) h.2 r2
    obtain ⟨us, e, q⟩ := m.at_ a _ h.1
    cases q.ints
    refine ⟨⟨a, vs', as, rfl, rfl, e, g1⟩, fun b hb => ?_⟩
    rcases List.mem_cons.mp hb with rfl | hb
    · exact ⟨ns, h.1⟩
    · exact g2 b hb
/-- the box is closed -/
theorem box_close {s s' : Sg} {p : Addr} {I : Nat → Bx → Prop} {st : Bx} {k : Nat} (hI : I k st) (hk : s'.n ≤ k) (h1 : s.M p = some (.lst (rawV st s'.pv))) (h2 : RawAt s.M st s'.pv) (h3 : s'.pv.Nodup) (h4 : p ∉ s'.pv) (h5 : s.pv = [])
    (h6 : s'.M p = some (.box I)) (h7 : ∀ b ∈ s'.pv, s'.M b = none) (h8 : ∀ b o, b ≠ p → s'.M b = some o → s.M b = some o ∧ ∀ J, o ≠ .box J) : Clo s s' := fun K H m => by
  obtain ⟨vs, e, r⟩ := m.at_ p _ h1
  obtain ⟨g1, g2⟩ := RawAt.bx m h2 r
  have pm : ∀ b ∈ s'.pv, Mut (H b) := fun b hb => by
    obtain ⟨ns, q⟩ := g2 b hb
    exact (m.at_ b _ q).mut
  refine ⟨⟨fun a o ea => ?_, fun a b J1 J2 e1 e2 => ?_, fun b hb => ⟨pm b hb, h7 b hb⟩⟩, ⟨.refl _, fun b o q1 q2 q3 q4 => ⟨q1, ?_, fun hb => ?_⟩⟩⟩
  · by_cases ha : a = p
    · subst ha
      rw [h6] at ea
      cases ea
      exact ⟨st, vs, ⟨k, hk, hI⟩, e, g1, h3⟩
    · obtain ⟨z1, z2⟩ := h8 a o ha ea
      have q := m.at_ a o z1
      cases o with
      | lst ws => exact q
      | dic ks ws => exact q
      | ins C ns ws => exact q
      | box J => exact absurd rfl (z2 J)
  · have key : ∀ a J, s'.M a = some (.box J) → a = p := fun a J e => by
      by_cases ha : a = p
      · exact ha
      · exact absurd rfl ((h8 a _ ha e).2 J)
    rw [key a J1 e1, key b J2 e2]
  · by_cases hb : b = p
    · subst hb; rw [h1] at q3; cases q3
    · cases z : s'.M b with
      | none => rfl
      | some o' => rw [(h8 b o' hb z).1] at q3; cases q3
  · obtain ⟨ns, q⟩ := g2 b hb
    rw [q] at q3
    cases q3
def startD (N : List Str) (ws : List D) : Ev := ws.map some ++ List.replicate (N.length - ws.length) none
theorem renv_start {K : PySem.W.Frag} {H : Hp} {N : List Str} {ws : List D} {vs : List V} (r : Reps K H ws vs) : REnv K H (startD N ws) (L2.start N vs) := by
  unfold startD L2.start
  refine ⟨by simp [r.len], fun i w h => ?_⟩
  have hi : i < ws.length := by
    by_cases hi : i < ws.length
    · exact hi
    · rw [List.getElem?_append_right (by simpa using hi), List.getElem?_replicate] at h
      split at h <;> cases h
  rw [List.getElem?_append_left (by simpa using hi), List.getElem?_map] at h
  obtain ⟨w', e1, e2⟩ := Option.map_eq_some_iff.mp h
  cases e2
  obtain ⟨v, e3, e4⟩ := r.get e1
  exact ⟨v, by rw [List.getElem?_append_left (by rw [List.length_map, ← r.len]; exact hi), List.getElem?_map, e3]; rfl, e4⟩
/-- a def as others call it -/
structure Df (P : Program) (w : World) (K : PySem.W.Frag) (mg : Str → Option Value) (base : Heap) (CX : CXT) (k : Nat) (x : Str) (ps : List Str) (sp : SpD) : Prop where
  ex : ∃ f fd, mg x = some (.ref f) ∧ PySem.W.keepIn K (.ref f) = true ∧ Binds K fd ps [] ∧ FnG P w K mg base CX k f fd ps (liftSp K sp)
section
variable {P : Program} {w : World} {K : PySem.W.Frag} {mg : Str → Option Value} {base : Heap} {CX : CXT} {j k : Nat} {x : Str} {ps : List Str} {sp sp' : SpD}
theorem Df.mono (F : Df P w K mg base CX j x ps sp) (h : j ≤ k) : Df P w K mg base CX k x ps sp := by
  obtain ⟨f, fd, a, b, c, d⟩ := F.ex
  exact ⟨f, fd, a, b, c, d.mono h⟩
theorem Df.imp (F : Df P w K mg base CX k x ps sp) (h : ∀ ws s R E, sp' ws s R E → sp ws s R E) : Df P w K mg base CX k x ps sp' := by
  obtain ⟨f, fd, a, b, c, d⟩ := F.ex
  exact ⟨f, fd, a, b, c, d.imp fun vs H Q E ⟨ws, s, R, E', h1, h2, h3, h4, h5⟩ => ⟨ws, s, R, E', h1, h2, h _ _ _ _ h3, h4, h5⟩⟩
end
def dCall (sp : SpD) (t : DA) : DE := fun env s R => t env s fun ws s1 => sp ws s1 R X0
section
variable {X : Cx} {CX : CXT} {k : Nat} {x : Str} {ps : List Str} {sp : SpD}
theorem pd_call {p pos : Pos} {e : Expr} {es : List Expr} {t : DA} (F : Df X.prog X.w X.K X.mg X.base CX0 k x ps sp) (hr : Room k X.A) (hgd : X.A.guards = some []) (hg : Gl X x) (ha : PDA X (e :: es) t)
    (hdb : (x == ("__debug__" : Str)) = false := by decide) (he : starEach (e :: es) X.env = (false, eval e X.env) :: starEach es X.env := by rfl) (hpl : (backTo pos (starEach es X.env)).any (·.1) = false := by rfl) :
    PD X (.Call (.Name x p) (e :: es) [] pos) (dCall sp t) := by
  obtain ⟨f, fd, hm, hk, hb, G⟩ := F.ex
  refine pe_imp (pe_callG (E := E0) G hr hgd hg hm hk hb .nil pass0 ha hdb he hpl) fun σ H Q ⟨env, s, R, h1, h2, h3, h4⟩ => ?_
  refine ⟨env, s, _, h1, h2, h3, fun ws s1 vs H1 q e1 m1 r1 => ?_⟩
  show liftSp X.K sp (vs ++ []) H1 Q E0
  rw [List.append_nil]
  exact ⟨ws, s1, R, X0, r1, m1, q, h4.ext e1, postX0⟩
end
/-- a def keeps a deep promise, by its body's reading -/
theorem df_of {P : Program} {w : World} {K : PySem.W.Frag} {mg : Str → Option Value} {base : Heap} {k : Nat} {f : Addr} {fd : FuncData} {x qual : Str} {params : Arguments} {body : List Stmt} {scope : Scope} {kws : List (Str × V)} {N ps : List Str} {sp : SpD} {tb : DS}
    (F : FunD K x qual params body scope [] kws f fd) (S : FnScope N ps scope) (hm : mg x = some (.ref f)) (hb : Binds K fd ps [])
    (body_ok : ∀ (cdv : Value) (A : Around) (outer : List Env) (s : Shared) (H : Hp) (E : XK), Room k (A.deeper (envOfC qual scope s.heap.objs.size f cdv)) → (A.deeper (envOfC qual scope s.heap.objs.size f cdv)).guards = some [] → PDSs (cxOf CX0 P w K mg base N qual scope f cdv A outer s H E).nox body tb)
    (sem : ∀ ws s R, sp ws s R X0 → ws.length = ps.length ∧ ∀ K H, MRep K H s → ∃ s1, MRep K H s1 ∧ Stp H s H s1 ∧ tb { nx := fun _ s' => Lw R .non s', rt := Lw R } (startD N ws) s1)
    (noX : ∀ ws s R E, sp ws s R E → sp ws s R X0) : Df P w K mg base CX0 (k + 1) x ps sp := by
  refine ⟨f, fd, hm, F.kp, hb, fnG_of F S (fun vs H Q E ⟨ws, s, R, E', h1, h2, h3, h4, h5⟩ => by rw [← h1.len]; exact (sem ws s R (noX _ _ _ _ h3)).1) fun cdv A outer s0 H vs Q E hr hg ⟨ws, s, R, E', h1, h2, h3, h4, h5⟩ => ?_⟩
  obtain ⟨s1, m1, e1, q⟩ := (sem ws s R (noX _ _ _ _ h3)).2 K H h2
  have h6 := (h4.ext e1).lw
  exact ⟨_, (body_ok cdv A outer s0 H E hr hg).nox, startD N ws, s1, _, renv_start h1, m1, q, ⟨fun env s' σ H' q e m r => h6 .non s' _ H' q e m rfl, h6, fun _ _ _ _ q => q.elim, fun _ _ _ _ q => q.elim⟩⟩
/-- the same where nothing is to be opened -/
theorem sem_plain {N ps : List Str} {sp : SpD} {tb : DS} (h : ∀ ws s R, sp ws s R X0 → ws.length = ps.length ∧ tb { nx := fun _ s' => Lw R .non s', rt := Lw R } (startD N ws) s) :
    ∀ ws s R, sp ws s R X0 → ws.length = ps.length ∧ ∀ K H, MRep K H s → ∃ s1, MRep K H s1 ∧ Stp H s H s1 ∧ tb { nx := fun _ s' => Lw R .non s', rt := Lw R } (startD N ws) s1 :=
  fun ws s R q => ⟨(h ws s R q).1, fun K H m => ⟨s, m, .refl _ _, (h ws s R q).2⟩⟩
end Dz
namespace Dz
open PySem PySem.Spec PyProof.Rows L2

/-! ### the law's call: the script is locked, nothing else is tracked -/
def scH (a : Addr) (z : HO) (c : Bool) : Hp := fun b => if c = true ∧ b = a then some z else none
theorem scH_some {a b : Addr} {z u : HO} {c : Bool} (h : scH a z c b = some u) : c = true ∧ b = a ∧ u = z := by
  unfold scH at h
  split at h
  · rename_i e
    exact ⟨e.1, e.2, (Option.some.inj h).symm⟩
  · cases h
theorem scH_off {a b : Addr} {z : HO} {c : Bool} (h : ¬ (c = true ∧ b = a)) : scH a z c b = none := if_neg h
theorem lawG {P : Program} {w : World} {K : PySem.W.Frag} {mg mb : Str → Option Value} {CX : CXT} {k : Nat} {fa a : Addr} {fd : FuncData} {x : Str} {sp : SpD} {s : Shared} {vs : List Value} {ns : List Int}
    (KX : K.In s.heap) (hns : s.heap.Ns mainGlobals mg) (hb : s.heap.Ns builtinsNs mb) (hbb : ∀ x : Str, x ≠ "__name__" → mb x = bootBuiltins x) (hlim : s.heap.NoLimit) (hg : s.gens = #[])
    (ha : s.heap.get? a = some { cls := .type "list", data := .seq vs.toArray }) (hi : IntsAre vs ns) (hl : ns.length ≤ sizeLine) (hr : Room k callerA)
    (F : ∀ base : Heap, K.In base → base.Ns mainGlobals mg → FnG P w K mg base CX k fa fd [x] (liftSp K sp)) (hbind : ∀ (t : Shared) (u : Value), BindsTo t fd ⟨[u], []⟩ [(x, u)])
    (hsp : sp [.lst (ns.map D.int)] ⟨fun _ => none, 1000000000000, []⟩ (fun v _ => v = .bl true) X0)
    (hCX : ∀ H e s', CX [] H s (fun _ _ _ => False) e s' → False) :
    codeAny (model P w) callerA (.call (.ref fa) ⟨[.ref a], []⟩) (fun r s' => r = .ok (.ret (.bool true)) ∧ OldK s.heap s'.heap ∧ s'.os = s.os ∧ AllBare s'.gens) s := by
  let z : HO := .frz { cls := .type "list", data := .seq vs.toArray } (.lst (ns.map V.int))
  let H : Hp := scH a z (K.lookup a).isNone
  have rv := vals_ints hi
  have lenV := hi.length
  have hok : HOk P w H s.heap := fun b u e => by
    obtain ⟨_, rfl, rfl⟩ := scH_some e
    exact ⟨ha, by rw [List.length_map]; exact hl, vs, _, rv, ha⟩
  have kN : ∀ {b : Addr} {o : Obj}, K.lookup b = some o → H b = none := fun {b o} e => scH_off fun ⟨c, q⟩ => by subst q; rw [e] at c; cases c
  have dN : ∀ {b : Addr} {o : Obj} {es : Array DictEntry} {ep : Nat}, s.heap.get? b = some o → o.data = .dict es ep → H b = none := fun {b o es ep} e d => scH_off fun ⟨_, q⟩ => by
    subst q
    rw [ha] at e
    cases e
    cases d
  have hK : K.In (hidT s.heap H) := fun b o e => hidT_get (KX b o e) (kN e)
  have nsH : ∀ {b : Addr} {m : Str → Option Value}, s.heap.Ns b m → (hidT s.heap H).Ns b m := by
    rintro b m ⟨o, es, ep, e, d, r⟩
    exact ⟨o, es, ep, hidT_get e (dN e d), d, r⟩
  have nl : (hidT s.heap H).NoLimit := by
    obtain ⟨mc, h1, h2⟩ := hlim
    exact ⟨mc, nsH h1, h2⟩
  have e0 : Env0 P w K mg (hidT s.heap H) callerA [] s H := ⟨rfl, ⟨hK, nsH hns, ⟨mb, nsH hb, hbb⟩, nl⟩, fun b o e => of_hidT e, Nat.le_of_eq (hidT_size _ _), trivial, fun b q => by simp [frs] at q, hok, .of_eq hg⟩
  have hS : FzL K H a (ns.map V.int) := by
    cases q : K.lookup a with
    | none =>
      have : H a = some z := if_pos ⟨by rw [q]; rfl, rfl⟩
      exact .inl (.inr ⟨_, fz_frz this⟩)
    | some o =>
      have e := KX a o q
      rw [ha] at e
      cases e
      exact .inr ⟨_, vs.toArray, _, q, rfl, rfl, rfl, by rw [List.size_toArray, lenV]; exact hl, by simpa using rv⟩
  have r0 : Reps K H [.lst (ns.map D.int)] [.ref a] := ⟨.ref a, [], rfl, ⟨a, _, rfl, hS, Reps.ofInts⟩, rfl⟩
  have m0 : MRep K H ⟨fun _ => none, 1000000000000, []⟩ := by
    refine ⟨fun _ _ e => ?_, fun _ _ _ _ e => ?_, fun _ e => ?_⟩
    · cases e
    · cases e
    · cases e
  have start : liftSp K sp [.ref a] H (fun v _ => v = .bl true) fun _ _ _ => False :=
    ⟨_, _, _, X0, r0, m0, hsp, fun w s' v H' q _ _ r => by subst q; exact r, fun _ _ _ _ _ q => q.elim⟩
  refine codeAny_mono ((F _ hK (nsH hns)).run callerA [] s H ⟨[.ref a], []⟩ [.ref a] [.ref a] _ _ hr rfl e0 (hbind s (.ref a)) (.cons rfl .nil) start) ?_
  rintro (e | (_ | _ | _ | u)) s' h
  · exact (hCX H e s' h).elim
  · exact h.elim
  · exact h.elim
  · exact h.elim
  · obtain ⟨v, H', os, bare, un, hok', r', q⟩ := h
    subst q
    cases (show u = Value.bool true from r')
    refine ⟨rfl, OldK.of_keep fun b o e => ?_, os, bare⟩
    cases q : H b with
    | none => exact un.keep b o e q (by simp [frs]) (by simp)
    | some y =>
      obtain ⟨_, rfl, rfl⟩ := scH_some q
      have := (hok' b _ (un.frzs b _ _ q)).1
      rw [ha] at e
      cases e
      exact this
/-- from the head's facts to the row -/
theorem walkG {l : PySem.W.OpenLaw} {n k : Nat} {q : Program} {loose : List Str} {XP : (Str → Option Value) → Heap → Prop} {YP : World → Heap → Prop} {d : DefRec} {CX : World → CXT} {x : Str}
    (hn : l.most = some n) (hn2 : n ≤ sizeLine) (hdf : d.params.defaults = []) (hr : Room k callerA)
    (F : ∀ (w : World) (mg : Str → Option Value) (fa : Addr) (h : Heap), YP w h → h.Ns mainGlobals mg → mg d.name = some (.ref fa) →
      ∃ (K : PySem.W.Frag) (fd : FuncData) (sp : SpD), K.In h ∧ (∀ (s : Shared) (u : Value), BindsTo s fd ⟨[u], []⟩ [(x, u)]) ∧
        (∀ ns : List Int, ns.length ≤ n → (∀ z ∈ ns, Builtin.Int.intBits z ≤ 1048576) → sp [.lst (ns.map D.int)] ⟨fun _ => none, 1000000000000, []⟩ (fun v _ => v = .bl true) X0) ∧
        ∀ base : Heap, K.In base → base.Ns mainGlobals mg → FnG l.prog w K mg base (CX w) k fa fd [x] (liftSp K sp))
    (hCX : ∀ (w : World) (H : Hp) (s : Shared) (e : Value) (s' : Shared), CX w [] H s (fun _ _ _ => False) e s' → False) :
    PySem.W.WalkO q loose XP YP l.row.toRowW d [] (fun f vs => PySem.call f vs) := by
  refine Att.attach_callB hn hdf fun w s0 s1 mg mb fa o pm cd doc a vs ns G Y ho hd hcd hmg hobj hints hlen hbits hg => ?_
  obtain ⟨K, fd, sp, KX, hb, hsp, hF⟩ := F w mg fa _ Y G.T.g hmg
  exact lawG KX G.T.g G.T.b G.T.builtins G.T.nolimit hg hobj hints (Nat.le_trans hlen hn2) hr hF hb (hsp ns hlen hbits) fun H e s' => hCX w H s1 e s'
end Dz
namespace Dz
open PySem PySem.Spec PyProof.Rows L2

/-! ### short names for the printed readings -/
abbrev rSub : D2 := rI (fun _ _ => True) fun i j => i - j
abbrev rDiv : D2 := rI CDiv fun i j => i / j
abbrev rMod : D2 := rI (fun _ j => 0 < j) fun i j => i % j
abbrev rPow : D2 := rI CPow fun i j => i ^ j.toNat
abbrev rLt : D2 := rCmp (fun i j => decide (i < j)) fun a b => decide (a < b)
abbrev rLe : D2 := rCmp (fun i j => decide (i ≤ j)) fun a b => !decide (b < a)
abbrev rGt : D2 := rCmp (fun i j => decide (j < i)) fun a b => decide (b < a)
abbrev rGe : D2 := rCmp (fun i j => decide (j ≤ i)) fun a b => !decide (a < b)
abbrev rEq : D2 := rEqv id
abbrev rNe : D2 := rEqv (!·)
abbrev rIs : D2 := rIsN id
abbrev rIsNot : D2 := rIsN (!·)
abbrev rMax2 : DL := rInt2 fun i j => if j > i then j else i
abbrev rMin2 : DL := rInt2 fun i j => if j < i then j else i
abbrev rAll : DL := rAllU fun l => l.all id
abbrev rAny : DL := rAllU fun l => l.any id
theorem bb_len : bootBuiltins "len" = some (.builtin "len") := by decide +kernel
theorem bb_abs : bootBuiltins "abs" = some (.builtin "abs") := by decide +kernel
theorem bb_max : bootBuiltins "max" = some (.builtin "max") := by decide +kernel
theorem bb_min : bootBuiltins "min" = some (.builtin "min") := by decide +kernel
theorem bb_int : bootBuiltins "int" = some (.type "int") := by decide +kernel
theorem bb_str : bootBuiltins "str" = some (.type "str") := by decide +kernel
theorem bb_bool : bootBuiltins "bool" = some (.type "bool") := by decide +kernel
theorem bb_list : bootBuiltins "list" = some (.type "list") := by decide +kernel
theorem bb_tuple : bootBuiltins "tuple" = some (.type "tuple") := by decide +kernel
theorem bb_dict : bootBuiltins "dict" = some (.type "dict") := by decide +kernel
theorem bb_set : bootBuiltins "set" = some (.type "set") := by decide +kernel
theorem bb_sum : bootBuiltins "sum" = some (.builtin "sum") := by decide +kernel
theorem bb_all : bootBuiltins "all" = some (.builtin "all") := by decide +kernel
theorem bb_any : bootBuiltins "any" = some (.builtin "any") := by decide +kernel
theorem bb_repr : bootBuiltins "repr" = some (.builtin "repr") := by decide +kernel
theorem bb_sorted : bootBuiltins "sorted" = some (.builtin "sorted") := by decide +kernel
theorem bb_isinstance : bootBuiltins "isinstance" = some (.builtin "isinstance") := by decide +kernel
section
variable {X : Cx} {pos : Pos}
/-- -a -/
def rNeg : D1 := fun x s R => match x with
  | .int i => R (.int (-i)) s
  | _ => False
theorem pd_neg {a : Expr} {ta : DE} (ha : PD X a ta) : PD X (.UnaryOp .USub a pos) (dUn rNeg ta) :=
  pe_imp (pe_un un_neg ha) fun σ H Q ⟨env, s, R, h1, h2, h3, h4⟩ => ⟨env, s, _, h1, h2, h3, fun w s1 v H1 q e m r => by
    unfold rNeg at q
    split at q
    · rename_i i
      exact ⟨i, r, h4 _ _ _ _ q e m rfl⟩
    · exact q.elim⟩
/-- a module's numbers and texts -/
theorem pd_gI {x : Str} {i : Int} (hg : Gl X x) (hm : ∃ t, X.mg x = some (.int i t)) (hd : (x == ("__debug__" : Str)) = false := by decide) : PD X (.Name x pos) (dC (.int i)) := by
  obtain ⟨t, h⟩ := hm
  exact pd_glob (v := .int i) hg h ⟨t, rfl⟩ rfl hd
theorem pd_gS {x z : Str} (hg : Gl X x) (hm : ∃ t, X.mg x = some (.str z t)) (hd : (x == ("__debug__" : Str)) = false := by decide) : PD X (.Name x pos) (dC (.str z)) := by
  obtain ⟨t, h⟩ := hm
  exact pd_glob (v := .str z) hg h ⟨t, rfl⟩ rfl hd
/-- a < b < c -/
def dChain (r r' : D2) (ta tb tc : DE) : DE := fun env s R => ta env s fun x s1 => tb env s1 fun y s2 => r x y s2 fun z s3 => match z with
  | .bl true => tc env s3 fun w s4 => r' y w s4 R
  | .bl false => R (.bl false) s3
  | _ => False
theorem dChain_imp (K : PySem.W.Frag) (r r' : D2) (ta tb tc : DE) : ∀ σ H Q, liftE K (dChain r r' ta tb tc) σ H Q → tChain (lift2 K r) (lift2 K r') (liftE K ta) (liftE K tb) (liftE K tc) σ H Q := fun σ H Q ⟨env, s, R, h1, h2, h3, h4⟩ =>
  ⟨env, s, _, h1, h2, h3, fun x s1 v H1 q e1 m1 r1 => ⟨env, s1, _, h1.ext e1.ext, m1, q, fun y s2 u H2 q2 e2 m2 r2 => ⟨x, y, s2, _, Rep.ext e2.ext _ _ r1, r2, m2, q2, fun z s3 zv H3 q3 e3 m3 r3 => by
    have e := (e1.trans e2).trans e3
    split at q3
    · exact ⟨true, r3, by rw [if_pos rfl]; exact ⟨env, s3, _, h1.ext e.ext, m3, q3, fun w s4 wv H4 q4 e4 m4 r4 => ⟨y, w, s4, R, Rep.ext e4.ext _ _ (Rep.ext e3.ext _ _ r2), r4, m4, q4, h4.ext (e.trans e4)⟩⟩⟩
    · exact ⟨false, r3, by rw [if_neg Bool.false_ne_true]; exact h4 _ _ _ _ q3 e m3 rfl⟩
    · exact q3.elim⟩⟩⟩
theorem pd_chain {op op' : CmpOp} {a b c : Expr} {ta tb tc : DE} {r r' : D2} (ho : OpR X (compareOp op) (lift2 X.K r)) (ho' : OpR X (compareOp op') (lift2 X.K r')) (ha : PD X a ta) (hb : PD X b tb) (hc : PD X c tc) (hm : lastMarks [op, op'] [b, c] = false := by with_unfolding_all rfl) :
    PD X (.Compare a [op, op'] [b, c] pos) (dChain r r' ta tb tc) := pe_imp (pe_chain ho ho' ha hb hc hm) (dChain_imp X.K r r' ta tb tc)
theorem pdt_chain {op op' : CmpOp} {a b c : Expr} {ta tb tc : DE} {r r' : D2} (ho : OpR X (compareOp op) (lift2 X.K r)) (ho' : OpR X (compareOp op') (lift2 X.K r')) (ha : PD X a ta) (hb : PD X b tb) (hc : PD X c tc) (hm : lastMarks [op, op'] [b, c] = false := by with_unfolding_all rfl) :
    PDT X (.Compare a [op, op'] [b, c] pos) (dB (dChain r r' ta tb tc)) :=
  pt_imp (pt_chain ho ho' ha hb hc hm) fun σ H Q ⟨env, s, R, h1, h2, h3, h4⟩ => dChain_imp X.K r r' ta tb tc σ H _ ⟨env, s, _, h1, h2, h3, fun w s1 v H1 q e1 m1 r1 => by
    cases w with
    | bl b => exact ⟨b, r1, h4 b s1 H1 q e1 m1⟩
    | _ => exact q.elim⟩
end
end Dz
namespace Dz
open PySem PySem.Spec PyProof.Rows L2

/-! ### trees of letters -/
def chr (c : Nat) : D := .str ⟨#[c]⟩
inductive Tr where
  | nil
  | node (l : Tr) (a : Nat) (r : Tr)
deriving DecidableEq
def Tr.d : Tr → D
  | .nil => .non
  | .node l a r => .tup [l.d, chr a, r.d]
def Tr.size : Tr → Nat
  | .nil => 0
  | .node l _ r => l.size + 1 + r.size
def Tr.depth : Tr → Nat
  | .nil => 0
  | .node l _ r => 1 + max l.depth r.depth
def Tr.mir : Tr → Tr
  | .nil => .nil
  | .node l a r => .node r.mir a l.mir
/-- every label is such -/
def Tr.all (p : Nat → Prop) : Tr → Prop
  | .nil => True
  | .node l a r => l.all p ∧ p a ∧ r.all p
theorem Tr.depth_le (t : Tr) : t.depth ≤ t.size := by
  induction t with
  | nil => exact Nat.le_refl _
  | node l a r h1 h2 => simp only [Tr.depth, Tr.size]; omega
theorem Tr.size_mir (t : Tr) : t.mir.size = t.size := by
  induction t with
  | nil => rfl
  | node l a r h1 h2 => simp only [Tr.mir, Tr.size, h1, h2]; omega
theorem chr_inj {a b : Nat} (h : chr a = chr b) : a = b := by
  unfold chr at h
  injection h with h
  injection h with h
  simpa using h
theorem Tr.d_inj : ∀ {t u : Tr}, t.d = u.d → t = u
  | .nil, .nil, _ => rfl
  | .nil, .node _ _ _, h => by simp [Tr.d] at h
  | .node _ _ _, .nil, h => by simp [Tr.d] at h
  | .node l a r, .node l' a' r', h => by
    simp only [Tr.d, D.tup.injEq, List.cons.injEq, and_true] at h
    rw [Tr.d_inj h.1, chr_inj h.2.1, Tr.d_inj h.2.2]
def Tr.isNil : Tr → Bool
  | .nil => true
  | .node _ _ _ => false
@[simp] theorem isNon_d (t : Tr) : isNon t.d = t.isNil := by cases t <;> rfl
theorem isNon_non : isNon .non = true := rfl
theorem isNon_tup {ws : List D} : isNon (.tup ws) = false := rfl
theorem isNon_lst {ws : List D} : isNon (.lst ws) = false := rfl
theorem isNon_str {x : Str} : isNon (.str x) = false := rfl
theorem isNon_int {i : Int} : isNon (.int i) = false := rfl
theorem isNon_bl {b : Bool} : isNon (.bl b) = false := rfl
theorem isNon_ref {a : Addr} : isNon (.ref a) = false := rfl
theorem isNon_dic {ks : List Key} {ws : List D} : isNon (.dic ks ws) = false := rfl
theorem isNon_ty {n : String} : isNon (.ty n) = false := rfl
theorem Tr.isNil_iff {t : Tr} : t.isNil = true ↔ t = .nil := by cases t <;> simp [Tr.isNil]
/-- a def of one tree, of depth below n -/
def spT (g : Tr → D) (n : Nat) : SpD := fun ws s R _ => ∃ t : Tr, ws = [t.d] ∧ t.depth < n ∧ R (g t) s
theorem spT_iff {g : Tr → D} {n : Nat} {t : Tr} {s : Sg} {R : KD} {E : XD} : spT g n [t.d] s R E ↔ t.depth < n ∧ R (g t) s := by
  constructor
  · rintro ⟨u, e, h⟩
    simp only [List.cons.injEq, and_true] at e
    rw [Tr.d_inj e]
    exact h
  · exact fun h => ⟨t, rfl, h⟩
theorem spT_X {g : Tr → D} {n : Nat} : ∀ ws s R E, spT g n ws s R E → spT g n ws s R X0 := fun ws s R E h => h
theorem df_false {P : Program} {w : World} {K : PySem.W.Frag} {mg : Str → Option Value} {base : Heap} {k : Nat} {f : Addr} {fd : FuncData} {x qual : Str} {params : Arguments} {body : List Stmt} {scope : Scope} {kws : List (Str × V)} {ps : List Str} {sp : SpD}
    (F : FunD K x qual params body scope [] kws f fd) (hm : mg x = some (.ref f)) (hb : Binds K fd ps []) (no : ∀ ws s R E, ¬ sp ws s R E) : Df P w K mg base CX0 k x ps sp :=
  ⟨f, fd, hm, F.kp, hb, ⟨fun vs H Q E ⟨ws, s, R, E', _, _, h, _⟩ => (no _ _ _ _ h).elim, fun A outer s H args us vs Q E _ _ _ _ _ ⟨ws, s', R, E', _, _, h, _⟩ => (no _ _ _ _ h).elim⟩⟩
end Dz
namespace Dz
open PySem PySem.Spec PyProof.Rows L2
theorem Sg.put_mk {M : Mm} {n : Nat} {pv : List Addr} {a : Addr} {o : MO} : (Sg.mk M n pv).put a o = Sg.mk (M.put a o) n pv := rfl
theorem Sg.del_mk {M : Mm} {n : Nat} {pv : List Addr} {a : Addr} : (Sg.mk M n pv).del a = Sg.mk (M.del a) n pv := rfl
theorem sg_n (s : Sg) : ({ s with n := s.n } : Sg) = s := rfl
theorem cmul_l {i j : Int} (h : 0 ≤ i) (h2 : i < 2 ^ 64) : CMul i j := .inl ⟨by omega, h2⟩
theorem cmul_r {i j : Int} (h : 0 ≤ j) (h2 : j < 2 ^ 64) : CMul i j := .inr ⟨by omega, h2⟩
theorem cmul_mod {i j k : Int} (h : 0 < k) (h2 : k ≤ 2 ^ 64) : CMul (i % k) j := .inl ⟨by have := Int.emod_nonneg i (show k ≠ 0 by omega); omega, by have := Int.emod_lt_of_pos i h; omega⟩
theorem atI_mod {xs : List Int} {c : Int} (h : 0 < xs.length) : ∃ x : Int, L2.atI (xs.map D.int) (c % (xs.length : Int)) = some (.int x) ∧ (c % (xs.length : Int)).toNat < xs.length ∧ x ∈ xs ∧ ixN xs.length (c % (xs.length : Int)) = some (c % (xs.length : Int)).toNat := by
  have h1 := Int.emod_nonneg c (show (xs.length : Int) ≠ 0 by omega)
  have h2 := Int.emod_lt_of_pos c (show (0 : Int) < xs.length by omega)
  have h3 : (c % (xs.length : Int)).toNat < xs.length := by omega
  have h4 : ixN xs.length (c % (xs.length : Int)) = some (c % (xs.length : Int)).toNat := by
    unfold ixN
    rw [if_pos h1, if_pos h2]
  refine ⟨xs[(c % (xs.length : Int)).toNat], ?_, h3, List.getElem_mem _, h4⟩
  unfold L2.atI
  rw [List.length_map, h4]
  simp [h3]
theorem map_set_int (xs : List Int) (k : Nat) (v : Int) : (xs.map D.int).set k (D.int v) = (xs.set k v).map D.int := by
  rw [List.map_set]
/-- the deck of draws -/
def DkI (n : Nat) (st : Bx) : Prop := ∃ (cells rests : List Int) (c : Int), st = [.inr cells, .inr rests, .inl c] ∧ cells.length = rests.length ∧ 0 < cells.length ∧ cells.length ≤ 1000 ∧ 0 ≤ c ∧ c + n ≤ 1000000000000
def Dk (s : Sg) (p : Addr) : Prop := s.M p = some (.box DkI)
def spend (s : Sg) (k : Nat) : Sg := { s with n := s.n - k }
theorem spend_M {s : Sg} {k : Nat} : (spend s k).M = s.M := rfl
theorem spend_pv {s : Sg} {k : Nat} : (spend s k).pv = s.pv := rfl
theorem spend_n {s : Sg} {k : Nat} : (spend s k).n = s.n - k := rfl
theorem spend_spend {s : Sg} {j k : Nat} : spend (spend s j) k = spend s (j + k) := by
  unfold spend
  simp only [Nat.sub_sub]
theorem spend_zero {s : Sg} : spend s 0 = s := rfl
theorem spend_less {s : Sg} {k : Nat} : Less s (spend s k) := ⟨fun _ _ h => h, Nat.sub_le _ _, rfl⟩
theorem spend_put {s : Sg} {k : Nat} {p : Addr} {o : MO} : spend (s.put p o) k = (spend s k).put p o := rfl
theorem spend_del {s : Sg} {k : Nat} {p : Addr} : spend (s.del p) k = (spend s k).del p := rfl
theorem Dk.spend {s : Sg} {p : Addr} {k : Nat} (h : Dk s p) : Dk (spend s k) p := h
/-- more may be spent than was -/
theorem Lw.more {R : KD} {w : D} {s : Sg} {j k : Nat} (h : j ≤ k) (q : R w (spend s k)) : Lw R w (spend s j) := ⟨spend s k, Less.clo ⟨fun _ _ e => e, by show s.n - k ≤ s.n - j; omega, rfl⟩, q⟩
theorem Lw.less {R : KD} {w : D} {s s' : Sg} (l : Less s s') (q : R w s') : Lw R w s := ⟨_, l.clo, q⟩
def spNext : SpD := fun ws s R _ => ∃ (p : Addr) (m : Int), ws = [.ref p, .int m] ∧ Dk s p ∧ 0 < m ∧ m < 1000000 ∧ 1 ≤ s.n ∧ ∀ r : Int, 0 ≤ r → r < m → R (.int r) (spend s 1)
theorem spNext_iff {p : Addr} {m : Int} {s : Sg} {R : KD} {E : XD} : spNext [.ref p, .int m] s R E ↔ Dk s p ∧ 0 < m ∧ m < 1000000 ∧ 1 ≤ s.n ∧ ∀ r : Int, 0 ≤ r → r < m → R (.int r) (spend s 1) := by
  constructor
  · rintro ⟨q, m', e, h⟩
    simp only [List.cons.injEq, D.ref.injEq, D.int.injEq, and_true] at e
    rw [e.1, e.2]
    exact h
  · exact fun h => ⟨p, m, rfl, h⟩
theorem next_fin {M M' : Mm} {n k : Nat} {p a b : Addr} {cells rs rests : List Int} {c r m : Int} {R : KD} (hb : M p = some (.box DkI)) (hn : 1 ≤ n) (hk : n ≤ k) (hl : cells.length = rests.length) (hl0 : 0 < cells.length) (hl1 : cells.length ≤ 1000) (hc0 : 0 ≤ c) (hc1 : c + k ≤ 1000000000000)
    (e1 : a ≠ b) (np1 : p ≠ a) (np2 : p ≠ b) (hv : ∀ q ∈ [a, b], M q = none) (one : ∀ x y I J, M x = some (.box I) → M y = some (.box J) → x = y) (hrs : rs.length = rests.length)
    (m1 : M' p = some (.lst [.ref a, .ref b, .int (c + 1)])) (m2 : M' a = some (.lst (cells.map D.int))) (m3 : M' b = some (.lst (rs.map D.int))) (m4 : ∀ q, q ≠ p → q ≠ a → q ≠ b → M' q = M q)
    (hR : ∀ r : Int, 0 ≤ r → r < m → R (.int r) (spend ⟨M, n, [a, b]⟩ 1)) (h0 : 0 ≤ r) (h1 : r < m) : Lw R (.int r) ⟨M', n, []⟩ := by
  refine ⟨_, ?_, hR r h0 h1⟩
  refine box_close (st := [.inr cells, .inr rs, .inl (c + 1)]) (k := n - 1) ⟨cells, rs, c + 1, rfl, by omega, hl0, hl1, by omega, by omega⟩ (Nat.le_refl _) m1 ⟨m2, m3, rfl⟩ ?_ ?_ rfl hb (fun q hq => hv q hq) (fun q o hq hm => ⟨?_, fun J e => ?_⟩)
  · simp [spend, e1]
  · simp [spend, np1, np2]
  · have nqa : q ≠ a := fun e => by subst e; rw [show (spend ⟨M, n, [q, b]⟩ 1).M q = M q from rfl, hv q (by simp)] at hm; cases hm
    have nqb : q ≠ b := fun e => by subst e; rw [show (spend ⟨M, n, [a, q]⟩ 1).M q = M q from rfl, hv q (by simp)] at hm; cases hm
    rw [← hm]; exact m4 q hq nqa nqb
  · subst e
    exact hq (one q p J DkI hm hb)
end Dz
namespace Dz
open PySem PySem.Spec PyProof.Rows L2
section
variable {w : D} {ws : List D} {g : DG} {tt : DT} {te : DE} {vs : List Nat} {env : Ev} {R : List D → Sg → Prop}
/-- a comprehension that leaves the state alone -/
theorem lc_pure {s : Sg} (f : D → Option D) : ∀ {l acc : List D}, asI s w = some ws → (∀ x ∈ l, ∀ (k : KD) (B : Sg → Prop), (match f x with | some y => k y s | none => B s) → g x (wipeD env vs) s fun env2 s2 => tt env2 s2 fun b s3 => if b = true then te env2 s3 k else B s3) → acc.length + l.length ≤ 1000000 → R (acc ++ l.filterMap f) s → dLcL w ws g tt te vs env R l acc s
  | [], acc, h, st, hl, hR => ⟨h, by simpa using hR⟩
  | x :: l, acc, h, st, hl, hR => by
    refine ⟨h, st x List.mem_cons_self (fun y s4 => acc.length < 1000000 ∧ dLcL w ws g tt te vs env R l (acc ++ [y]) s4) _ ?_⟩
    rw [List.length_cons] at hl
    cases e : f x with
    | none =>
      rw [List.filterMap_cons_none e] at hR
      exact lc_pure f h (fun y hy => st y (List.mem_cons_of_mem _ hy)) (by omega) hR
    | some y =>
      rw [List.filterMap_cons_some e] at hR
      exact ⟨by omega, lc_pure f h (fun y hy => st y (List.mem_cons_of_mem _ hy)) (by rw [List.length_append, List.length_cons, List.length_nil]; omega) (by rw [List.append_assoc]; exact hR)⟩
/-- where every part is kept -/
theorem lc_map {s : Sg} (f : D → D) {l acc : List D} (h : asI s w = some ws) (st : ∀ x ∈ l, ∀ (k : KD) (B : Sg → Prop), k (f x) s → g x (wipeD env vs) s fun env2 s2 => tt env2 s2 fun b s3 => if b = true then te env2 s3 k else B s3) (hl : acc.length + l.length ≤ 1000000) (hR : R (acc ++ l.map f) s) : dLcL w ws g tt te vs env R l acc s :=
  lc_pure (fun x => some (f x)) h (fun x hx k B q => st x hx k B q) hl (by rw [show (fun x => some (f x)) = some ∘ f from rfl, List.filterMap_eq_map]; exact hR)
/-- where each part takes c draws -/
theorem lc_draw {s : Sg} (c : Nat) (P : D → Prop) : ∀ {l acc : List D} {j : Nat}, asI s w = some ws → (∀ t : Nat, asI (spend s t) w = asI s w) → (∀ x ∈ l, ∀ (k : KD) (B : Sg → Prop) (t : Nat), t + c ≤ j + c * l.length → (∀ y, P y → k y (spend s (t + c))) → g x (wipeD env vs) (spend s t) fun env2 s2 => tt env2 s2 fun b s3 => if b = true then te env2 s3 k else B s3) → acc.length + l.length ≤ 1000000 → (∀ ys : List D, ys.length = l.length → (∀ y ∈ ys, P y) → R (acc ++ ys) (spend s (j + c * l.length))) → dLcL w ws g tt te vs env R l acc (spend s j)
  | [], acc, j, h, hs, st, hl, hR => ⟨(hs j).trans h, by simpa using hR [] rfl (fun _ h => nomatch h)⟩
  | x :: l, acc, j, h, hs, st, hl, hR => by
    rw [List.length_cons] at hl
    have e : j + c * (x :: l).length = (j + c) + c * l.length := by rw [List.length_cons, Nat.mul_add]; omega
    refine ⟨(hs j).trans h, st x List.mem_cons_self (fun y s4 => acc.length < 1000000 ∧ dLcL w ws g tt te vs env R l (acc ++ [y]) s4) _ j (by rw [e]; omega) fun y hy => ⟨by omega, ?_⟩⟩
    refine lc_draw c P h hs (fun z hz k B t ht q => st z (List.mem_cons_of_mem _ hz) k B t (by rw [e]; exact ht) q) (by rw [List.length_append, List.length_cons, List.length_nil]; omega) fun ys hys hp => ?_
    rw [← e, List.append_assoc]
    exact hR (y :: ys) (by rw [List.length_cons, List.length_cons, hys]) fun z hz => by
      rcases List.mem_cons.mp hz with rfl | hz
      · exact hy
      · exact hp z hz
end
theorem rg_len {lo : Int} {n : Nat} : (rg lo n).length = n := by simp [rg]
theorem rg_mem {lo : Int} {n : Nat} {x : D} (h : x ∈ rg lo n) : ∃ k : Nat, k < n ∧ x = .int (lo + k) := by
  unfold rg at h
  obtain ⟨k, hk, rfl⟩ := List.mem_map.mp h
  exact ⟨k, by simpa using hk, rfl⟩
theorem asI_tup {s : Sg} {ws : List D} : asI s (.tup ws) = some ws := rfl
/-! places and cuts -/
theorem atI_nat {α : Type} {xs : List α} {i : Int} (h : 0 ≤ i) (h2 : i < xs.length) : L2.atI xs i = xs[i.toNat]? := by
  unfold L2.atI ixN
  rw [if_pos h, if_pos h2]
  rfl
theorem atI_map {α β : Type} {f : α → β} {xs : List α} {i : Int} (h : 0 ≤ i) (h2 : i < xs.length) : ∃ x, xs[i.toNat]? = some x ∧ x ∈ xs ∧ L2.atI (xs.map f) i = some (f x) := by
  have h3 : i.toNat < xs.length := by omega
  refine ⟨xs[i.toNat], by simp [h3], List.getElem_mem _, ?_⟩
  rw [atI_nat h (by rw [List.length_map]; exact h2), List.getElem?_map]
  simp [h3]
theorem ixN_nat {n : Nat} {i : Int} (h : 0 ≤ i) (h2 : i < n) : ixN n i = some i.toNat := by
  unfold ixN
  rw [if_pos h, if_pos h2]
theorem cut_to {xs : List D} {i : Int} (h : 0 ≤ i) : cutD xs none (some i) = xs.take i.toNat := by
  unfold cutD
  rw [show HT.sIx xs.length 0 none = 0 from rfl, List.drop_zero, Nat.sub_zero]
  obtain ⟨k, rfl⟩ := Int.eq_ofNat_of_zero_le h
  rw [HT.sIx_nat]
  simp only [Int.toNat_natCast]
  rw [Nat.min_def]
  split
  · rfl
  · rw [List.take_of_length_le (Nat.le_refl _), List.take_of_length_le (by omega)]
theorem cut_from {xs : List D} {i : Int} (h : 0 ≤ i) : cutD xs (some i) none = xs.drop i.toNat := by
  unfold cutD
  rw [show HT.sIx xs.length xs.length none = xs.length from rfl]
  obtain ⟨k, rfl⟩ := Int.eq_ofNat_of_zero_le h
  rw [HT.sIx_nat]
  simp only [Int.toNat_natCast]
  rw [Nat.min_def]
  split
  · rw [List.take_of_length_le (by rw [List.length_drop]; omega)]
  · rw [List.drop_of_length_le (Nat.le_refl _), List.drop_of_length_le (by omega)]
    simp
theorem map_erase {α β : Type} (f : α → β) : ∀ (xs : List α) (i : Nat), (xs.map f).eraseIdx i = (xs.eraseIdx i).map f
  | [], i => rfl
  | x :: xs, 0 => rfl
  | x :: xs, i + 1 => by
    show f x :: (xs.map f).eraseIdx i = f x :: (xs.eraseIdx i).map f
    rw [map_erase f xs i]
/-- what was known still is; at most j draws were made -/
structure Ov (s s' : Sg) (j : Nat) : Prop where
  m : ∀ a o, s.M a = some o → s'.M a = some o
  n : s.n ≤ s'.n + j
  v : s'.pv = s.pv
theorem Ov.refl (s : Sg) : Ov s s 0 := ⟨fun _ _ h => h, Nat.le_refl _, rfl⟩
theorem Ov.put {s s' : Sg} {j : Nat} {q : Addr} {o : MO} (h : Ov s s' j) (hq : s.M q = none) : Ov s (s'.put q o) j :=
  ⟨fun a u e => (Mm.put_ne fun z => by subst z; rw [hq] at e; cases e).trans (h.m a u e), h.n, h.v⟩
theorem Ov.del {s s' : Sg} {j : Nat} {q : Addr} (h : Ov s s' j) (hq : s.M q = none) : Ov s (s'.del q) j :=
  ⟨fun a u e => (Mm.del_ne fun z => by subst z; rw [hq] at e; cases e).trans (h.m a u e), h.n, h.v⟩
theorem Ov.spend {s s' : Sg} {j k : Nat} (h : Ov s s' j) : Ov s (spend s' k) (j + k) := ⟨h.m, by have := h.n; show s.n ≤ s'.n - k + (j + k); omega, h.v⟩
theorem Ov.none {s s' : Sg} {j : Nat} {q : Addr} (h : Ov s s' j) (hq : s'.M q = none) : s.M q = none := by
  cases e : s.M q with
  | none => rfl
  | some o => rw [h.m q o e] at hq; cases hq
theorem Ov.dk {s s' : Sg} {j : Nat} {p : Addr} (h : Ov s s' j) (hp : Dk s p) : Dk s' p := h.m _ _ hp
theorem Ov.less {s s' : Sg} {j k : Nat} (h : Ov s s' j) (hk : j ≤ k) : Less s' (Dz.spend s k) := ⟨h.m, by have := h.n; show s.n - k ≤ s'.n; omega, h.v.symm⟩
theorem Ov.lw {s s' : Sg} {j k : Nat} {R : KD} {w : D} (h : Ov s s' j) (hk : j ≤ k) (q : R w (Dz.spend s k)) : Lw R w s' := ⟨_, (h.less hk).clo, q⟩
theorem Ov.lw0 {s s' : Sg} {R : KD} {w : D} (h : Ov s s' 0) (q : R w s) : Lw R w s' := h.lw (Nat.le_refl _) q
theorem Ov.mono {s s' : Sg} {j k : Nat} (h : Ov s s' j) (hk : j ≤ k) : Ov s s' k := ⟨h.m, by have := h.n; omega, h.v⟩
theorem Ov.trans {s s' s'' : Sg} {j k : Nat} (h : Ov s s' j) (g : Ov s' s'' k) : Ov s s'' (j + k) := ⟨fun a o e => g.m a o (h.m a o e), by have := h.n; have := g.n; omega, g.v.trans h.v⟩
theorem Dk.ne {s : Sg} {p q : Addr} {ws : List D} (h : Dk s p) (g : s.M q = some (.lst ws)) : p ≠ q := fun z => by subst z; rw [show s.M p = _ from h] at g; cases g
theorem Dk.neN {s : Sg} {p q : Addr} (h : Dk s p) (g : s.M q = none) : p ≠ q := fun z => by subst z; rw [show s.M p = _ from h] at g; cases g
theorem Dk.put {s : Sg} {p q : Addr} {o : MO} (h : Dk s p) (g : p ≠ q) : Dk (s.put q o) p := (Mm.put_ne g).trans h
end Dz
namespace Dz
open PySem PySem.Spec PyProof.Rows L2

/-! ### data of a known depth -/
mutual
def fit : D → Nat → Prop
  | .non, _ => True
  | .bl _, _ => True
  | .int _, _ => True
  | .str x, _ => PyData.strOk x = true
  | .tup ws, n => 0 < n ∧ ws.length ≤ 100000 ∧ fits ws (n - 1)
  | .lst ws, n => 0 < n ∧ ws.length ≤ 100000 ∧ fits ws (n - 1)
  | .dic _ _, _ => False
  | .ref _, _ => False
  | .ty _, _ => False
  | .exc _ _ _ _, _ => False
def fits : List D → Nat → Prop
  | [], _ => True
  | w :: ws, n => fit w n ∧ fits ws n
end
def pyD (w : D) : PyData := (toPy w).getD .none
def pyDs (ws : List D) : List PyData := (toPys ws).getD []
mutual
theorem fit_py : ∀ (w : D) (n : Nat), fit w n → toPy w = some (pyD w) ∧ (pyD w).canLay0 = true ∧ (pyD w).depth ≤ n
  | .non, n, h => ⟨rfl, rfl, Nat.zero_le _⟩
  | .bl _, n, h => ⟨rfl, rfl, Nat.zero_le _⟩
  | .int _, n, h => ⟨rfl, rfl, Nat.zero_le _⟩
  | .str x, n, h => ⟨rfl, h, Nat.zero_le _⟩
  | .tup ws, n, h => by
    have h' : 0 < n ∧ ws.length ≤ 100000 ∧ fits ws (n - 1) := h
    obtain ⟨h0, _, h⟩ := h'
    obtain ⟨e, c, d⟩ := fits_py ws (n - 1) h
    have e2 : toPy (.tup ws) = some (.tuple (pyDs ws)) := by rw [toPy, e]; rfl
    have e3 : pyD (.tup ws) = .tuple (pyDs ws) := by rw [pyD, e2]; rfl
    rw [e3]
    exact ⟨e2, c, by show PyData.depthAll _ + 1 ≤ n; omega⟩
  | .lst ws, n, h => by
    have h' : 0 < n ∧ ws.length ≤ 100000 ∧ fits ws (n - 1) := h
    obtain ⟨h0, _, h⟩ := h'
    obtain ⟨e, c, d⟩ := fits_py ws (n - 1) h
    have e2 : toPy (.lst ws) = some (.list (pyDs ws)) := by rw [toPy, e]; rfl
    have e3 : pyD (.lst ws) = .list (pyDs ws) := by rw [pyD, e2]; rfl
    rw [e3]
    exact ⟨e2, c, by show PyData.depthAll _ + 1 ≤ n; omega⟩
  | .dic _ _, n, h => h.elim
  | .ref _, n, h => h.elim
  | .ty _, n, h => h.elim
  | .exc _ _ _ _, n, h => h.elim
theorem fits_py : ∀ (ws : List D) (n : Nat), fits ws n → toPys ws = some (pyDs ws) ∧ PyData.canLayAll0 (pyDs ws) = true ∧ PyData.depthAll (pyDs ws) ≤ n
  | [], n, h => ⟨rfl, rfl, Nat.zero_le _⟩
  | w :: ws, n, h => by
    have h' : fit w n ∧ fits ws n := h
    obtain ⟨h1, h2⟩ := h'
    obtain ⟨e1, c1, d1⟩ := fit_py w n h1
    obtain ⟨e2, c2, d2⟩ := fits_py ws n h2
    have e3 : toPys (w :: ws) = some (pyD w :: pyDs ws) := by rw [toPys, e1, e2]; rfl
    have e4 : pyDs (w :: ws) = pyD w :: pyDs ws := by rw [pyDs, e3]; rfl
    rw [e4]
    refine ⟨e3, ?_, ?_⟩
    · show (PyData.canLay0 _ && PyData.canLayAll0 _) = true
      rw [c1, c2]; rfl
    · show max _ _ ≤ n
      exact Nat.max_le.mpr ⟨d1, d2⟩
end
mutual
theorem fit_mono : ∀ (w : D) (n m : Nat), n ≤ m → fit w n → fit w m
  | .non, n, m, _, h => h
  | .bl _, n, m, _, h => h
  | .int _, n, m, _, h => h
  | .str x, n, m, _, h => h
  | .tup ws, n, m, l, h => by
    have h' : 0 < n ∧ ws.length ≤ 100000 ∧ fits ws (n - 1) := h
    exact ⟨by omega, h'.2.1, fits_mono ws _ _ (by omega) h'.2.2⟩
  | .lst ws, n, m, l, h => by
    have h' : 0 < n ∧ ws.length ≤ 100000 ∧ fits ws (n - 1) := h
    exact ⟨by omega, h'.2.1, fits_mono ws _ _ (by omega) h'.2.2⟩
  | .dic _ _, n, m, _, h => h
  | .ref _, n, m, _, h => h
  | .ty _, n, m, _, h => h
  | .exc _ _ _ _, n, m, _, h => h
theorem fits_mono : ∀ (ws : List D) (n m : Nat), n ≤ m → fits ws n → fits ws m
  | [], n, m, _, h => h
  | w :: ws, n, m, l, h => by
    have h' : fit w n ∧ fits ws n := h
    exact ⟨fit_mono w n m l h'.1, fits_mono ws n m l h'.2⟩
end
theorem fits_of {n : Nat} : ∀ {ws : List D}, (∀ w ∈ ws, fit w n) → fits ws n
  | [], _ => trivial
  | w :: ws, h => ⟨h w List.mem_cons_self, fits_of fun u hu => h u (List.mem_cons_of_mem _ hu)⟩
theorem fits_mem {n : Nat} : ∀ {ws : List D} {w : D}, fits ws n → w ∈ ws → fit w n
  | [], w, _, h => nomatch h
  | u :: ws, w, q, h => by
    have q' : fit u n ∧ fits ws n := q
    rcases List.mem_cons.mp h with rfl | h
    · exact q'.1
    · exact fits_mem q'.2 h
theorem pyOf_fit {s : Sg} {w : D} {n : Nat} (h : fit w n) : pyOf s w = some (pyD w) := by
  have := (fit_py w n h).1
  cases w <;> first | exact this | exact h.elim
theorem shaped_fit {w : D} {n : Nat} (h : fit w n) (hn : n ≤ 64) : SeqAt.shaped (pyD w) = true := by
  obtain ⟨_, c, d⟩ := fit_py w n h
  unfold SeqAt.shaped
  rw [c, Bool.true_and, decide_eq_true_eq]
  omega
/-- == of a thing with itself -/
theorem rEqv_refl {w : D} {n : Nat} {g : Bool → Bool} {s : Sg} {R : KD} (h : fit w n) (hn : n ≤ 64) (q : R (.bl (g true)) s) : rEqv g w w s R := by
  have e := SeqAt.eqv_refl (pyD w) (fit_py w n h).2.1
  have c := shaped_fit h hn
  have p := pyOf_fit (s := s) h
  unfold rEqv
  split
  · simpa using q
  · simpa using q
  · simpa using q
  · rw [p]
    exact ⟨c, c, by rw [e]; exact q⟩
/-! ### trees as data -/
theorem strOk_chr {c : Nat} (h : c < 1114112) : PyData.strOk ⟨#[c]⟩ = true := by simp [PyData.strOk, h]
theorem fit_tr : ∀ {t : Tr} {n : Nat}, t.all (· < 1114112) → t.depth ≤ n → fit t.d n
  | .nil, n, _, _ => trivial
  | .node l a r, n, h, hd => by
    simp only [Tr.depth] at hd
    refine ⟨by omega, by simp, fit_tr h.1 (by omega), strOk_chr h.2.1, fit_tr h.2.2 (by omega), trivial⟩
theorem Tr.all_mono {p q : Nat → Prop} (h : ∀ c, p c → q c) : ∀ {t : Tr}, t.all p → t.all q
  | .nil, _ => trivial
  | .node l a r, ⟨h1, h2, h3⟩ => ⟨all_mono h h1, h _ h2, all_mono h h3⟩
theorem Tr.all_mir {p : Nat → Prop} : ∀ {t : Tr}, t.all p → t.mir.all p
  | .nil, _ => trivial
  | .node l a r, ⟨h1, h2, h3⟩ => ⟨all_mir h3, h2, all_mir h1⟩
theorem Tr.depth_mir : ∀ t : Tr, t.mir.depth = t.depth
  | .nil => rfl
  | .node l a r => by simp only [Tr.mir, Tr.depth, depth_mir l, depth_mir r]; omega
def pyT : Tr → PyData
  | .nil => .none
  | .node l a r => .tuple [pyT l, .str ⟨#[a]⟩, pyT r]
theorem toPy_tr : ∀ t : Tr, toPy t.d = some (pyT t)
  | .nil => rfl
  | .node l a r => by
    show toPy (.tup [l.d, .str ⟨#[a]⟩, r.d]) = _
    simp only [toPy, toPys, toPy_tr l, toPy_tr r, Option.map_some, Option.bind_some, pyT]
theorem pyD_tr (t : Tr) : pyD t.d = pyT t := by rw [pyD, toPy_tr]; rfl
theorem pyT_show : ∀ t : Tr, (pyT t).showable = true
  | .nil => rfl
  | .node l a r => by
    show ((pyT l).showable && (true && ((pyT r).showable && true))) = true
    rw [pyT_show l, pyT_show r]; rfl
theorem pyT_short : ∀ t : Tr, t.all (· < 1114112) → (pyT t).leavesShort 13 = true
  | .nil, _ => rfl
  | .node l a r, h => by
    show ((pyT l).leavesShort 13 && (PyData.leavesShort 13 (.str ⟨#[a]⟩) && ((pyT r).leavesShort 13 && true))) = true
    rw [pyT_short l h.1, pyT_short r h.2.2]
    have : a < 16 ^ 8 := by have := h.2.1; omega
    simp [PyData.leavesShort, this]
theorem pyT_weight : ∀ t : Tr, (pyT t).weight = 4 * t.size
  | .nil => rfl
  | .node l a r => by
    show (pyT l).weight + 1 + (1 + 1 + ((pyT r).weight + 1 + 0)) = _
    rw [pyT_weight l, pyT_weight r]
    simp only [Tr.size]; omega
theorem repr_tr {t : Tr} {s : Sg} {R : KD} (h0 : 0 < t.size) (h1 : t.size ≤ 10000) (hd : t.depth ≤ 60) (h : t.all (· < 1114112)) (q : R (.str (pyT t).shown) s) : rRepr [t.d] s R := by
  have f := fit_tr (n := 60) h hd
  have p := pyOf_fit (s := s) f
  have d := (fit_py _ _ f).2.2
  have l := PyData.shown_le 13 (by decide) (pyT t) (pyT_short t h)
  rw [pyT_weight] at l
  rw [pyD_tr] at p d
  unfold rRepr
  dsimp only
  rw [p]
  refine ⟨?_, pyT_show t, d, by omega, q⟩
  cases t with
  | nil => cases h0
  | node l a r => rfl
theorem toPys_trs : ∀ h : List Tr, toPys (h.map Tr.d) = some (h.map pyT)
  | [] => rfl
  | t :: h => by simp only [List.map_cons, toPys, toPy_tr, toPys_trs h, Option.bind_some, Option.map_some]
theorem eqv_nilr (xs : List PyData) : PyData.eqv (.list xs) (.list []) = xs.isEmpty := by
  cases xs <;> simp [PyData.eqv, PyData.eqvAll]
theorem shaped_of {w : D} {d : PyData} {n : Nat} (h : fit w n) (hn : n ≤ 64) (e : toPy w = some d) : SeqAt.shaped d = true := by
  have := shaped_fit h hn
  rw [pyD, e] at this
  exact this
theorem shaped_nil : SeqAt.shaped (.list []) = true := rfl
/-! ### loops by what holds at each turn -/
theorem for_inv {w : D} {ws : List D} {g : DG} {tb : DS} {DD : DEnds} (I : List D → Ev → Sg → Prop) (h0 : ∀ env s, I [] env s → asI s w = some ws ∧ DD.nx env s)
    (h1 : ∀ x r env s (N : Ev → Sg → Prop), I (x :: r) env s → (∀ env' s', I r env' s' → N env' s') → asI s w = some ws ∧ g x env s fun env' s' => tb { DD with nx := N, ct := N, bk := DD.nx } env' s') :
    ∀ {l : List D} {env : Ev} {s : Sg}, I l env s → dForL w ws g tb DD l env s
  | [], env, s, h => h0 env s h
  | x :: r, env, s, h => h1 x r env s (dForL w ws g tb DD r) h fun env' s' h' => for_inv I h0 h1 h'
theorem while_inv {c : DT} {tb : DS} {DD : DEnds} (I : Nat → Ev → Sg → Prop)
    (h1 : ∀ n env s (N : Ev → Sg → Prop), I n env s → (∀ m env' s', n = m + 1 → I m env' s' → N env' s') → c env s fun b s1 => if b = true then tb { DD with nx := N, ct := N, bk := DD.nx } env s1 else DD.nx env s1) :
    ∀ {n : Nat} {env : Ev} {s : Sg}, I n env s → dWhileN c tb DD (n + 1) env s
  | 0, env, s, h => h1 0 env s _ h fun m _ _ e => nomatch e
  | n + 1, env, s, h => h1 (n + 1) env s (dWhileN c tb DD (n + 1)) h fun m env' s' e h' => by
    cases e
    exact while_inv I h1 h'
theorem while_of {c : DT} {tb : DS} {DD : DEnds} {env : Ev} {s : Sg} (I : Nat → Ev → Sg → Prop) (n : Nat) (h : I n env s)
    (h1 : ∀ n env s (N : Ev → Sg → Prop), I n env s → (∀ m env' s', n = m + 1 → I m env' s' → N env' s') → c env s fun b s1 => if b = true then tb { DD with nx := N, ct := N, bk := DD.nx } env s1 else DD.nx env s1) : dWhile c tb DD env s :=
  ⟨n + 1, while_inv I h1 h⟩
end Dz
namespace Dz
open PySem PySem.Spec PyProof.Rows L2
theorem dfG_of {P : Program} {w : World} {K : PySem.W.Frag} {mg : Str → Option Value} {base : Heap} {k : Nat} {f : Addr} {fd : FuncData} {x qual : Str} {params : Arguments} {body : List Stmt} {scope : Scope} {kws : List (Str × V)} {N ps : List Str} {sp : SpD} {tb : DS}
    (F : FunD K x qual params body scope [] kws f fd) (S : FnScope N ps scope)
    (body_ok : ∀ (cdv : Value) (A : Around) (outer : List Env) (s : Shared) (H : Hp) (E : XK), Room k (A.deeper (envOfC qual scope s.heap.objs.size f cdv)) → (A.deeper (envOfC qual scope s.heap.objs.size f cdv)).guards = some [] → PDSs (cxOf CX0 P w K mg base N qual scope f cdv A outer s H E).nox body tb)
    (sem : ∀ ws s R, sp ws s R X0 → ws.length = ps.length ∧ ∀ K H, MRep K H s → ∃ s1, MRep K H s1 ∧ Stp H s H s1 ∧ tb { nx := fun _ s' => Lw R .non s', rt := Lw R } (startD N ws) s1)
    (noX : ∀ ws s R E, sp ws s R E → sp ws s R X0) : FnG P w K mg base CX0 (k + 1) f fd ps (liftSp K sp) := by
  refine fnG_of F S (fun vs H Q E ⟨ws, s, R, E', h1, h2, h3, h4, h5⟩ => by rw [← h1.len]; exact (sem ws s R (noX _ _ _ _ h3)).1) fun cdv A outer s0 H vs Q E hr hg ⟨ws, s, R, E', h1, h2, h3, h4, h5⟩ => ?_
  obtain ⟨s1, m1, e1, q⟩ := (sem ws s R (noX _ _ _ _ h3)).2 K H h2
  have h6 := (h4.ext e1).lw
  exact ⟨_, (body_ok cdv A outer s0 H E hr hg).nox, startD N ws, s1, _, renv_start h1, m1, q, ⟨fun env s' σ H' q e m r => h6 .non s' _ H' q e m rfl, h6, fun _ _ _ _ q => q.elim, fun _ _ _ _ q => q.elim⟩⟩
end Dz
namespace Dz
open PySem PySem.Spec PyProof.Rows L2
section
variable {X : Cx}
/-! ### f-strings -/
def dFmt (t : DE) : DE := fun env s R => t env s fun w s1 => match w with
  | .str y => y.length ≤ 1000000 ∧ R (.str y) s1
  | .int i => i.natAbs.log2 < 1920 ∧ R (.str (toString i)) s1
  | _ => False
theorem pd_fmt {e : Expr} {t : DE} {pos : Pos} (h : PD X e t) : PD X (.FormattedValue e (-1) none pos) (dFmt t) :=
  pe_imp (pe_fmt h) fun σ H Q ⟨env, s, R, h1, h2, h3, h4⟩ => ⟨env, s, _, h1, h2, h3, fun w s1 v H1 q e1 m1 r1 => by
    cases w with
    | str y => exact .inl ⟨y, r1, Nat.le_trans q.1 mil, h4 _ _ _ _ q.2 e1 m1 rfl⟩
    | int i => exact .inr ⟨i, r1, q.1, h4 _ _ _ _ q.2 e1 m1 rfl⟩
    | _ => exact q.elim⟩
def dJs : List DE → Str → Ev → Sg → (Str → Sg → Prop) → Prop
  | [], acc, _, s, R => R acc s
  | t :: ts, acc, env, s, R => t env s fun w s1 => match w with
    | .str y => acc.length + y.length ≤ 1000000 ∧ dJs ts (acc ++ y) env s1 R
    | _ => False
theorem str_app_len (a b : Str) : (a ++ b).length = a.length + b.length := by
  show (a.cps ++ b.cps).size = a.cps.size + b.cps.size
  exact Array.size_append
theorem tJs_of {K : PySem.W.Frag} {σ : L2.St} {env : Ev} {H0 : Hp} {s0 : Sg} {R : Str → Sg → Prop} {Q : Str → Hp → Prop} (hp : ∀ z s H', R z s → Stp H0 s0 H' s → MRep K H' s → Q z H') :
    ∀ (ts : List DE) (acc : Str) (H : Hp) (s : Sg), REnv K H env σ → MRep K H s → Stp H0 s0 H s → dJs ts acc env s R → tJs (ts.map (liftE K)) acc σ H Q
  | [], acc, H, s, r, m, e, h => hp acc s H h e m
  | t :: ts, acc, H, s, r, m, e, h => ⟨env, s, _, r, m, h, fun w s1 v H1 q e1 m1 r1 => by
    cases w with
    | str y => exact ⟨y, r1, by rw [str_app_len]; exact Nat.le_trans q.1 mil, tJs_of hp ts (acc ++ y) H1 s1 (r.ext e1.ext) m1 (e.trans e1) q.2⟩
    | _ => exact q.elim⟩
abbrev PDJ (X : Cx) (es : List Expr) (ts : List DE) : Prop := PJ X es (ts.map (liftE X.K))
theorem pdj_nil : PDJ X [] [] := .nil
theorem pdj_cons {e : Expr} {t : DE} {es : List Expr} {ts : List DE} (h : PD X e t) (r : PDJ X es ts) : PDJ X (e :: es) (t :: ts) := .cons h r
def dFJ (ts : List DE) : DE := fun env s R => dJs ts Str.empty env s fun z s1 => R (.str z) s1
theorem pd_joined {v1 v2 : Expr} {rest : List Expr} {ts : List DE} {pos : Pos} (h : PDJ X (v1 :: v2 :: rest) ts) : PD X (.JoinedStr (v1 :: v2 :: rest) pos) (dFJ ts) :=
  pe_imp (pe_joined h) fun σ H Q ⟨env, s, R, h1, h2, h3, h4⟩ => tJs_of (R := fun z s1 => R (.str z) s1) (fun z s' H' q e m => h4 _ _ _ _ q e m rfl) ts Str.empty H s h1 h2 (.refl _ _) h3
end
/-! ### texts as lists of signs -/
def mkS (l : List Nat) : Str := ⟨l.toArray⟩
theorem mkS_app (a b : List Nat) : mkS a ++ mkS b = mkS (a ++ b) := by
  show Str.append (mkS a) (mkS b) = _
  unfold Str.append mkS
  simp
theorem mkS_len (a : List Nat) : (mkS a).length = a.length := by
  show (a.toArray).size = _
  simp
theorem mkS_inj {a b : List Nat} (h : mkS a = mkS b) : a = b := by
  unfold mkS at h
  injection h with h
  have := congrArg Array.toList h
  simpa using this
theorem mkS_iff {a b : List Nat} : mkS a = mkS b ↔ a = b := ⟨mkS_inj, fun h => by rw [h]⟩
theorem mkS_cps (a : List Nat) : (mkS a).cps.toList = a := rfl
theorem mkS_of (x : Str) : x = mkS x.cps.toList := by cases x; rfl
theorem chr_mk (c : Nat) : chr c = .str (mkS [c]) := rfl
theorem empty_mk : Str.empty = mkS [] := rfl
end Dz
namespace Dz
open PySem PySem.Spec PyProof.Rows L2
/-! ### == without unfolding; trees -/
section
variable {g : Bool → Bool} {s : Sg} {R : KD}
theorem rEqv_int {i j : Int} : rEqv g (.int i) (.int j) s R = R (.bl (g (decide (i = j)))) s := rfl
theorem rEqv_str {i j : Str} : rEqv g (.str i) (.str j) s R = R (.bl (g (decide (i = j)))) s := rfl
theorem rEqv_bl {i j : Bool} : rEqv g (.bl i) (.bl j) s R = R (.bl (g (decide (i = j)))) s := rfl
theorem eqv_tr : ∀ t u : Tr, PyData.eqv (pyT t) (pyT u) = true ↔ t = u
  | .nil, .nil => by simp [pyT, PyData.eqv]
  | .nil, .node _ _ _ => by simp [pyT, PyData.eqv]
  | .node _ _ _, .nil => by simp [pyT, PyData.eqv]
  | .node l a r, .node l' a' r' => by
    simp only [pyT, PyData.eqv, PyData.eqvAll, Bool.and_eq_true, eqv_tr l l', eqv_tr r r', Bool.and_true, Tr.node.injEq]
    simp
theorem rEqv_py {w u : D} {n m : Nat} (hw : fit w n) (hu : fit u m) (hn : n ≤ 64) (hm : m ≤ 64) (hne : ∀ i, w ≠ .int i) (hns : ∀ i, w ≠ .str i) (hnb : ∀ i, w ≠ .bl i) (q : R (.bl (g (PyData.eqv (pyD w) (pyD u)))) s) : rEqv g w u s R := by
  unfold rEqv
  split
  · exact absurd rfl (hne _)
  · exact absurd rfl (hns _)
  · exact absurd rfl (hnb _)
  · rw [pyOf_fit hw, pyOf_fit hu]
    exact ⟨shaped_fit hw hn, shaped_fit hu hm, q⟩
theorem rEqv_tr {t u : Tr} (ht : t.all (· < 1114112)) (hu : u.all (· < 1114112)) (hd : t.depth ≤ 64) (hd' : u.depth ≤ 64) : rEqv g t.d u.d s R ↔ R (.bl (g (decide (t = u)))) s := by
  have e : PyData.eqv (pyT t) (pyT u) = decide (t = u) := by
    rw [Bool.eq_iff_iff, eqv_tr, decide_eq_true_eq]
  have f1 := fit_tr ht hd
  have f2 := fit_tr hu hd'
  have p1 := pyOf_fit (s := s) f1
  have p2 := pyOf_fit (s := s) f2
  have c1 := shaped_fit f1 (Nat.le_refl _)
  have c2 := shaped_fit f2 (Nat.le_refl _)
  have key : rEqv g t.d u.d s R = (match pyOf s t.d, pyOf s u.d with | some d, some e => SeqAt.shaped d = true ∧ SeqAt.shaped e = true ∧ R (.bl (g (PyData.eqv d e))) s | _, _ => False) := by
    cases t <;> rfl
  rw [key, p1, p2]
  dsimp only
  rw [c1, c2, pyD_tr, pyD_tr, e]
  simp
end
theorem weight_trs : ∀ ts : List Tr, PyData.weightAll (ts.map pyT) = (ts.map fun t => 4 * t.size + 1).sum
  | [] => rfl
  | t :: ts => by
    show (pyT t).weight + 1 + PyData.weightAll (ts.map pyT) = _
    rw [pyT_weight, weight_trs ts]; rfl
theorem show_trs : ∀ ts : List Tr, PyData.showableAll (ts.map pyT) = true
  | [] => rfl
  | t :: ts => by
    show ((pyT t).showable && PyData.showableAll (ts.map pyT)) = true
    rw [pyT_show, show_trs ts]; rfl
theorem short_trs : ∀ ts : List Tr, (∀ t ∈ ts, t.all (· < 1114112)) → PyData.leavesShortAll 13 (ts.map pyT) = true
  | [], _ => rfl
  | t :: ts, h => by
    show ((pyT t).leavesShort 13 && PyData.leavesShortAll 13 (ts.map pyT)) = true
    rw [pyT_short t (h t List.mem_cons_self), short_trs ts fun u hu => h u (List.mem_cons_of_mem _ hu)]; rfl
theorem sum_le_mul : ∀ {ns : List Nat} {b : Nat}, (∀ n ∈ ns, n ≤ b) → ns.sum ≤ ns.length * b
  | [], b, _ => by simp
  | n :: ns, b, h => by
    have h1 := h n List.mem_cons_self
    have h2 := sum_le_mul (ns := ns) (b := b) fun m hm => h m (List.mem_cons_of_mem _ hm)
    rw [List.sum_cons, List.length_cons, Nat.add_mul]
    omega
theorem repr_trs {ts : List Tr} {s : Sg} {R : KD} (h : ∀ t ∈ ts, t.size ≤ 1000 ∧ t.depth ≤ 59 ∧ t.all (· < 1114112)) (hl : ts.length ≤ 10) (q : R (.str (PyData.list (ts.map pyT)).shown) s) : rRepr [.lst (ts.map Tr.d)] s R := by
  have f : fit (.lst (ts.map Tr.d)) 60 := ⟨by decide, by rw [List.length_map]; omega, fits_of fun w hw => by
    obtain ⟨t, ht, rfl⟩ := List.mem_map.mp hw
    exact fit_tr (h t ht).2.2 (h t ht).2.1⟩
  have e : toPy (.lst (ts.map Tr.d)) = some (.list (ts.map pyT)) := by rw [toPy, toPys_trs]; rfl
  have d := (fit_py _ _ f).2.2
  rw [pyD, e] at d
  have l := PyData.shown_le 13 (by decide) (.list (ts.map pyT)) (short_trs ts fun t ht => (h t ht).2.2)
  have w : PyData.weight (.list (ts.map pyT)) ≤ 40010 := by
    show PyData.weightAll _ ≤ _
    rw [weight_trs]
    have := sum_le_mul (ns := ts.map fun t => 4 * t.size + 1) (b := 4001) fun n hn => by
      obtain ⟨t, ht, rfl⟩ := List.mem_map.mp hn
      have := (h t ht).1
      omega
    rw [List.length_map] at this
    omega
  unfold rRepr
  dsimp only [pyOf]
  rw [e]
  exact ⟨rfl, show_trs ts, d, by omega, q⟩
end Dz
namespace Dz
open PySem PySem.Spec PyProof.Rows L2
section
variable {X : Cx}
/-! ### a new list: xs[::-1] -/
def dRevA (te : DE) : DA := fun env s R => te env s fun x s1 => match asL s1 x with
  | some ws => R ws.reverse s1
  | none => False
theorem nl_rev {e : Expr} {te : DE} {k : Nat} {p1 p2 p3 pos : Pos} (he : PD X e te) : PNL X (.Subscript e (.Slice none none (some (.UnaryOp .USub (.Constant (.int 1) k p1) p2)) p3) pos) (dRevA te) :=
  pe_imp (pe_revL he) fun σ H Q ⟨env, s, R, h1, h2, h3, h4⟩ => by
    refine ⟨env, s, _, h1, h2, h3, fun x s1 v H1 q e1 m1 r1 => ?_⟩
    split at q
    · rename_i ws hw
      obtain ⟨a, vs, rfl, f, g⟩ := asL_sq hw r1 m1
      exact ⟨a, vs, rfl, f, fun p hp => h4 _ _ _ _ q e1 m1 g.reverse p hp⟩
    · exact q.elim
end
/-! ### max and min of two texts -/
section
variable {prog : Program} {w : World} {A : Around} {E : Value → Shared → Prop} {s : Shared}
theorem cmp_gt_str {P : Nat → Value → Prop} (val : Nat → Str) (hval : ∀ i v, P i v → ∃ t, v = .str (val i) t) : CmpOf prog w A .Gt P (fun i j => decide ((val j).cps.toList < (val i).cps.toList)) := fun i j vi vj s Q E hi hj h => by
  obtain ⟨t, rfl⟩ := hval i vi hi
  obtain ⟨u, rfl⟩ := hval j vj hj
  show wpAny (model prog w) A (compareOp .Gt _ _) Q E s
  exact PySem.P.gt_str h
theorem cmp_lt_str {P : Nat → Value → Prop} (val : Nat → Str) (hval : ∀ i v, P i v → ∃ t, v = .str (val i) t) : CmpOf prog w A .Lt P (fun i j => decide ((val i).cps.toList < (val j).cps.toList)) := fun i j vi vj s Q E hi hj h => by
  obtain ⟨t, rfl⟩ := hval i vi hi
  obtain ⟨u, rfl⟩ := hval j vj hj
  show wpAny (model prog w) A (compareOp .Lt _ _) Q E s
  exact lt_str h
def sItems (a b : Str) (t u : Tok) : Array Value := #[.str a t, .str b u]
def sAt (a b : Str) (i : Nat) : Str := if i = 0 then a else b
theorem sItems_at {a b : Str} {t u : Tok} {i : Nat} {v : Value} (h : (sItems a b t u)[i]? = some v) : ∃ t, v = .str (sAt a b i) t := by
  match i with
  | 0 => simp [sItems] at h; exact ⟨t, by rw [← h]; rfl⟩
  | 1 => simp [sItems] at h; exact ⟨u, by rw [← h]; rfl⟩
  | i + 2 => simp [sItems] at h
theorem max_two_strs {a b : Str} {t u : Tok} {Q : Value → Shared → Prop} (hh : A.handled = none)
    (h : ∀ h' tk, (∀ c o, s.heap.get? c = some o → h'.get? c = some o) → Q (if a.cps.toList < b.cps.toList then .str b u else .str a t) { s with heap := h', toks := tk }) :
    wpAny (model prog w) A (call (.builtin "max") [.str a t, .str b u]) Q E s := by
  have hT : (s.heap.push { cls := .type "tuple", data := .seq #[.str a t, .str b u] }).IsTuple s.heap.objs.size (sItems a b t u) := ⟨_, Heap.get?_push_size _ rfl, rfl, 0, by simp [sItems]⟩
  refine call_max_two (wpAny_pyIter_tuple hT ?_)
  have hsz : (s.heap.push { cls := .type "tuple", data := .seq #[.str a t, .str b u] }).objs.size = s.heap.objs.size + 1 := Heap.size_push ..
  refine ⟨_, [_, s.heap.objs.size], [_], _, _, _, _, rfl, Walks.tuple (A := A.in1) hh _ s.heap.objs.size (by rw [hsz]; exact Nat.ne_of_lt (Nat.lt_succ_self _)) (sItems a b t u),
    ⟨⟨_, Heap.get?_push_size _ rfl, rfl, rfl⟩, hT.push _⟩, fun c hc => ?_, by simp [sItems], cmp_gt_str (sAt a b) (fun _ _ => sItems_at), fun v h' tk hP hk => ?_⟩
  · show c < ((s.heap.push _).push _).objs.size
    rw [Heap.size_push, hsz]
    rcases List.mem_cons.mp hc with rfl | hc
    · rw [hsz]; exact Nat.lt_succ_self _
    · rcases List.mem_cons.mp hc with rfl | hc
      · exact Nat.lt_succ_of_lt (Nat.lt_succ_self _)
      · cases hc
  · have old : ∀ c o, s.heap.get? c = some o → h'.get? c = some o := fun c o e => by
      refine hk c o (fun hm => ?_) (Heap.get?_push_of_some _ (Heap.get?_push_of_some _ e))
      rcases List.mem_cons.mp hm with e1 | hm
      · have := Heap.lt_size e; rw [e1, hsz] at this; exact Nat.lt_irrefl _ (Nat.lt_of_succ_lt this)
      · cases hm
    have fin := h h' tk old
    have hP' : (sItems a b t u)[argBest (fun i j => decide ((sAt a b j).cps.toList < (sAt a b i).cps.toList)) 1]? = some v := hP
    by_cases hba : a.cps.toList < b.cps.toList
    · have e : argBest (fun i j => decide ((sAt a b j).cps.toList < (sAt a b i).cps.toList)) 1 = 1 := by simp [argBest, sAt, hba]
      rw [e] at hP'
      rw [if_pos hba] at fin
      have : v = .str b u := by simpa [sItems] using hP'.symm
      rw [this]; exact fin
    · have e : argBest (fun i j => decide ((sAt a b j).cps.toList < (sAt a b i).cps.toList)) 1 = 0 := by simp [argBest, sAt, hba]
      rw [e] at hP'
      rw [if_neg hba] at fin
      have : v = .str a t := by simpa [sItems] using hP'.symm
      rw [this]; exact fin
theorem min_two_strs {a b : Str} {t u : Tok} {Q : Value → Shared → Prop} (hh : A.handled = none)
    (h : ∀ h' tk, (∀ c o, s.heap.get? c = some o → h'.get? c = some o) → Q (if b.cps.toList < a.cps.toList then .str b u else .str a t) { s with heap := h', toks := tk }) :
    wpAny (model prog w) A (call (.builtin "min") [.str a t, .str b u]) Q E s := by
  have hT : (s.heap.push { cls := .type "tuple", data := .seq #[.str a t, .str b u] }).IsTuple s.heap.objs.size (sItems a b t u) := ⟨_, Heap.get?_push_size _ rfl, rfl, 0, by simp [sItems]⟩
  refine call_min_two (wpAny_pyIter_tuple hT ?_)
  have hsz : (s.heap.push { cls := .type "tuple", data := .seq #[.str a t, .str b u] }).objs.size = s.heap.objs.size + 1 := Heap.size_push ..
  refine ⟨_, [_, s.heap.objs.size], [_], _, _, _, _, rfl, Walks.tuple (A := A.in1) hh _ s.heap.objs.size (by rw [hsz]; exact Nat.ne_of_lt (Nat.lt_succ_self _)) (sItems a b t u),
    ⟨⟨_, Heap.get?_push_size _ rfl, rfl, rfl⟩, hT.push _⟩, fun c hc => ?_, by simp [sItems], cmp_lt_str (sAt a b) (fun _ _ => sItems_at), fun v h' tk hP hk => ?_⟩
  · show c < ((s.heap.push _).push _).objs.size
    rw [Heap.size_push, hsz]
    rcases List.mem_cons.mp hc with rfl | hc
    · rw [hsz]; exact Nat.lt_succ_self _
    · rcases List.mem_cons.mp hc with rfl | hc
      · exact Nat.lt_succ_of_lt (Nat.lt_succ_self _)
      · cases hc
  · have old : ∀ c o, s.heap.get? c = some o → h'.get? c = some o := fun c o e => by
      refine hk c o (fun hm => ?_) (Heap.get?_push_of_some _ (Heap.get?_push_of_some _ e))
      rcases List.mem_cons.mp hm with e1 | hm
      · have := Heap.lt_size e; rw [e1, hsz] at this; exact Nat.lt_irrefl _ (Nat.lt_of_succ_lt this)
      · cases hm
    have fin := h h' tk old
    have hP' : (sItems a b t u)[argBest (fun i j => decide ((sAt a b i).cps.toList < (sAt a b j).cps.toList)) 1]? = some v := hP
    by_cases hba : b.cps.toList < a.cps.toList
    · have e : argBest (fun i j => decide ((sAt a b i).cps.toList < (sAt a b j).cps.toList)) 1 = 1 := by simp [argBest, sAt, hba]
      rw [e] at hP'
      rw [if_pos hba] at fin
      have : v = .str b u := by simpa [sItems] using hP'.symm
      rw [this]; exact fin
    · have e : argBest (fun i j => decide ((sAt a b i).cps.toList < (sAt a b j).cps.toList)) 1 = 0 := by simp [argBest, sAt, hba]
      rw [e] at hP'
      rw [if_neg hba] at fin
      have : v = .str a t := by simpa [sItems] using hP'.symm
      rw [this]; exact fin
end
section
variable {X : Cx}
def rStr2 (g : Str → Str → Str) : DL := fun ws s R => match ws with
  | [.str i, .str j] => R (.str (g i j)) s
  | _ => False
abbrev rMaxS : DL := rStr2 fun a b => if a.cps.toList < b.cps.toList then b else a
abbrev rMinS : DL := rStr2 fun a b => if b.cps.toList < a.cps.toList then b else a
theorem cd_maxS (hc : X.calm = true) : CallR X (.builtin "max") (liftL X.K rMaxS) := by
  intro pins s σ H xs us Q I r ⟨ws, sg, R, r1, m, h, p⟩
  unfold rMaxS rStr2 at h
  split at h
  · rename_i a b
    obtain ⟨x, xs', rfl, r2, y, ys, rfl, r3, r4⟩ := r1
    cases (show ys = [] from r4)
    cases (show x = .str a from r2)
    cases (show y = .str b from r3)
    obtain ⟨u, w', rfl, ⟨t, rfl⟩, ⟨t', rfl⟩⟩ := vals2 r
    refine max_two_strs (I.ok.hd hc) fun h' tk k => ⟨_, H, I.kept k, ?_, p _ _ _ _ h (.refl _ _) m rfl⟩
    dsimp only
    by_cases hj : a.cps.toList < b.cps.toList
    · rw [if_pos hj, if_pos hj]; exact ⟨_, rfl⟩
    · rw [if_neg hj, if_neg hj]; exact ⟨_, rfl⟩
  · exact h.elim
theorem cd_minS (hc : X.calm = true) : CallR X (.builtin "min") (liftL X.K rMinS) := by
  intro pins s σ H xs us Q I r ⟨ws, sg, R, r1, m, h, p⟩
  unfold rMinS rStr2 at h
  split at h
  · rename_i a b
    obtain ⟨x, xs', rfl, r2, y, ys, rfl, r3, r4⟩ := r1
    cases (show ys = [] from r4)
    cases (show x = .str a from r2)
    cases (show y = .str b from r3)
    obtain ⟨u, w', rfl, ⟨t, rfl⟩, ⟨t', rfl⟩⟩ := vals2 r
    refine min_two_strs (I.ok.hd hc) fun h' tk k => ⟨_, H, I.kept k, ?_, p _ _ _ _ h (.refl _ _) m rfl⟩
    dsimp only
    by_cases hj : b.cps.toList < a.cps.toList
    · rw [if_pos hj, if_pos hj]; exact ⟨_, rfl⟩
    · rw [if_neg hj, if_neg hj]; exact ⟨_, rfl⟩
  · exact h.elim
end
section
variable {X : Cx}
theorem pd_setLcF {i : Nat} {y : Str} {py : Pos} {elt tg iter : Expr} {ifs : List Expr} {scope : Scope} {own : List (Str × Nat)} {pos spos : Pos} {ti : DI} {g : DG} {gv : TG} {tt : DT} {te : DE} (gi : GI X.K g gv) (wi : Wi (own.map (·.2)) gv) (hc : X.calm = true) (hN : X.N.Nodup) (hy : X.N[i]? = some y) (hyl : X.env.scope.names.lookup y = some .local)
    (hsw : swapsWith (.ListComp elt [⟨tg, iter, ifs, 0⟩] scope pos) (some (.Name y py)) spos.line X.env = pure true) (hi : PDI X tg iter ti) (ok : BlkOk X.N X.env.scope scope own)
    (hg : ∀ (s : Shared) (H : Hp) (C : Addr) (cl : List (Str × Addr)) (fp : List Addr), PG (X.blk s H scope (compEnvC scope cl C X.env) fp) tg gv) (ht : ∀ (s : Shared) (H : Hp) (C : Addr) (cl : List (Str × Addr)) (fp : List Addr), PDTs (X.blk s H scope (compEnvC scope cl C X.env) fp) ifs tt)
    (he : ∀ (s : Shared) (H : Hp) (C : Addr) (cl : List (Str × Addr)) (fp : List Addr), PD (X.blk s H scope (compEnvC scope cl C X.env) fp) elt te) (hs : ∀ x, foldedSetIterable iter X.env x = pure x := by intro _; rfl) :
    PDS X (.Assign [.Name y py] (.ListComp elt [⟨tg, iter, ifs, 0⟩] scope pos) spos) (dSet i (dF (dLc ti g tt te (own.map (·.2))))) := pd_setF (ps_setLc hc hN hy hyl hsw hi ok hg ht he hs) (lc_imp gi wi)
theorem pd_setLcM {i : Nat} {y : Str} {py : Pos} {elt tg iter : Expr} {ifs : List Expr} {scope : Scope} {own : List (Str × Nat)} {pos spos : Pos} {ti : DI} {g : DG} {gv : TG} {tt : DT} {te : DE} (gi : GI X.K g gv) (wi : Wi (own.map (·.2)) gv) (hc : X.calm = true) (hN : X.N.Nodup) (hy : X.N[i]? = some y) (hyl : X.env.scope.names.lookup y = some .local)
    (hsw : swapsWith (.ListComp elt [⟨tg, iter, ifs, 0⟩] scope pos) (some (.Name y py)) spos.line X.env = pure true) (hi : PDI X tg iter ti) (ok : BlkOk X.N X.env.scope scope own)
    (hg : ∀ (s : Shared) (H : Hp) (C : Addr) (cl : List (Str × Addr)) (fp : List Addr), PG (X.blk s H scope (compEnvC scope cl C X.env) fp) tg gv) (ht : ∀ (s : Shared) (H : Hp) (C : Addr) (cl : List (Str × Addr)) (fp : List Addr), PDTs (X.blk s H scope (compEnvC scope cl C X.env) fp) ifs tt)
    (he : ∀ (s : Shared) (H : Hp) (C : Addr) (cl : List (Str × Addr)) (fp : List Addr), PD (X.blk s H scope (compEnvC scope cl C X.env) fp) elt te) (hs : ∀ x, foldedSetIterable iter X.env x = pure x := by intro _; rfl) :
    PDS X (.Assign [.Name y py] (.ListComp elt [⟨tg, iter, ifs, 0⟩] scope pos) spos) (dSet i (dM (dLc ti g tt te (own.map (·.2))))) := pd_setM (ps_setLc hc hN hy hyl hsw hi ok hg ht he hs) (lc_imp gi wi)
end
theorem toPys_ints : ∀ ns : List Int, toPys (ns.map D.int) = some (ns.map PyData.int)
  | [] => rfl
  | n :: ns => by simp only [List.map_cons, toPys, toPy, toPys_ints ns, Option.bind_some, Option.map_some]
theorem lay_ints : ∀ ns : List Int, PyData.canLayAll0 (ns.map PyData.int) = true
  | [] => rfl
  | n :: ns => by show (true && PyData.canLayAll0 (ns.map PyData.int)) = true; rw [lay_ints ns]; rfl
theorem depth_ints : ∀ ns : List Int, PyData.depthAll (ns.map PyData.int) = 0
  | [] => rfl
  | n :: ns => by show max 0 (PyData.depthAll (ns.map PyData.int)) = 0; rw [depth_ints ns]; rfl
theorem shaped_ints (ns : List Int) : SeqAt.shaped (.list (ns.map PyData.int)) = true := by
  unfold SeqAt.shaped
  rw [show PyData.canLay0 (.list (ns.map PyData.int)) = true from lay_ints ns, show PyData.depth (.list (ns.map PyData.int)) = 1 by show PyData.depthAll _ + 1 = 1; rw [depth_ints]]
  rfl
end Dz
namespace Dz
open PySem PySem.Spec PyProof.Rows L2
section
variable {X : Cx}
/-! ### sorted of texts, any length -/
def rSortA : DN := fun ws s R => ∃ (w : D) (xs : List Str), ws = [w] ∧ asL s w = some (xs.map D.str) ∧ xs.length ≤ 1000000 ∧ ∀ ys : List Str, ys.Perm xs → sortedS ys = true → R (ys.map D.str) s
theorem cd_sortA : CallR X (.builtin "sorted") (liftNL X.K rSortA) := by
  intro pins s σ H vs us Q I r ⟨ws, sg, R, r1, m, h, p⟩
  obtain ⟨w, xs, rfl, hw, hl, h⟩ := h
  obtain ⟨v, r', rfl, r2, r3⟩ := r1
  cases (show r' = [] from r3)
  obtain ⟨a, us', rfl, f, g⟩ := asL_sq hw r2 m
  cases g.strs
  obtain ⟨its, rv, hl', _⟩ := I.list f
  rw [Vals.ref1 r]
  have hlen0 := rv.length
  rw [List.length_map] at hlen0
  refine PyProof.Rows.sorted_strsAny hl'.isList rv.strs (by rw [← hlen0]; exact Nat.le_trans hl mil) fun out ys h1 h2 h3 => ?_
  obtain ⟨ep, he'⟩ := PyProof.Rows.sortedAll_at s.heap its out
  have hlen : (ys.map V.str).length ≤ sizeLine := by rw [List.length_map, h2.length_eq]; exact Nat.le_trans hl mil
  have hn := I.hok.fresh (Nat.le_succ s.heap.objs.size)
  exact ⟨.ref _, upd H (s.heap.objs.size + 1) (.lst (ys.map V.str)), I.laid (t' := s.toks) (fun _ _ => PyProof.Rows.sortedAll_old) (Nat.le_succ _) ⟨hlen, out.toList, ep, vals_of_strs h1, he'⟩, rfl, p _ _ _ _ (h ys h2 h3) (.refl _ _) m Reps.ofStrs _ hn⟩
/-! ### xs.extend(ys) -/
def rExtendD (l : Addr) (R : KD) (y : D) (s2 : Sg) : Prop := trk (.ref l) s2 fun l ws => trk y s2 fun b zs => ws.length + zs.length ≤ 1000000 ∧ R .non (s2.put l (.lst (ws ++ zs)))
def dExtend (to ta : DE) : DE := fun env s R => to env s fun x s1 => trk x s1 fun l _ => ta env s1 fun y s2 => rExtendD l R y s2
variable {o a : Expr} {to ta : DE} {apos cpos : Pos}
theorem pd_extend (ho : PD X o to) (ha : PD X a ta) (hbase : attributeBase o "extend" X.env (eval o X.env) = eval o X.env := by rfl)
    (hfew : ((backTo cpos (starEach [a] X.env)).all (fun x => !x.1) && (backToKw cpos (keywordEach [] X.env)).all (fun x => x.1.isSome) && decide (([a] : List Expr).length + ([] : List Keyword).length + (if ([] : List Keyword).isEmpty then 0 else 1) < 30)) = true := by rfl)
    (hline : (apos.endLine == cpos.line) = true := by rfl) (hs : starEach [a] X.env = (false, eval a X.env) :: starEach [] X.env := by rfl) :
    PD X (.Call (.Attribute o "extend" apos) [a] [] cpos) (dExtend to ta) :=
  pe_imp (pe_bm PySem.F.plainAttrs_list PySem.F.slot_list_extend PySem.F.type_list_extend mt_extend ho (pda_cons ha pda_nil hs) hbase hfew hline hs) fun σ H Q ⟨env, s, R, h1, h2, h3, h4⟩ => by
    refine ⟨env, s, _, h1, h2, h3, fun x s1 v H1 q e1 m1 r1 => ?_⟩
    obtain ⟨l, ws, rfl, hm, q⟩ := trk_ok q
    cases (show v = .ref l from r1)
    refine ⟨ty_trk m1 hm, env, s1, (fun zs s2 => match zs with
      | [y] => rExtendD l R y s2
      | _ => False), h1.ext e1.ext, m1, q, fun zs s3 us H3 q3 e3 m3 r3 => ?_⟩
    dsimp only at q3
    split at q3
    · rename_i y
      obtain ⟨u, ur, rfl, r2, r4⟩ := r3
      cases (show ur = [] from r4)
      obtain ⟨l', ws', e, hm3, q3⟩ := trk_ok q3
      cases e
      obtain ⟨b, zs', rfl, hb3, c1, c2⟩ := trk_ok q3
      cases (show u = .ref b from r2)
      obtain ⟨ts, z1, z2⟩ := m3.at_ l _ hm3
      obtain ⟨us', y1, y2⟩ := m3.at_ b _ hb3
      have rs := Reps.append z2 y2
      obtain ⟨n1, n2⟩ := mrep_put m3 hm3 rs
      exact ⟨l, b, ts, us', rfl, rfl, z1, y1, by rw [← z2.len, ← y2.len]; exact Nat.le_trans c1 mil, h4 _ _ _ _ c2 ((e1.trans e3).trans n2) n1 rfl⟩
    · exact q3.elim
/-! ### x op= e of ints -/
def dAug (i : Nat) (te : DE) (C : Int → Int → Prop) (g : Int → Int → Int) : DS := fun D env s => match env[i]? with
  | some (some (.int a)) => te env s fun w s1 => match w with
    | .int b => C a b ∧ D.nx (env.set i (some (.int (g a b)))) s1
    | _ => False
  | _ => False
def PIpI (X : Cx) (op : Operator) (C : Int → Int → Prop) (g : Int → Int → Int) : Prop := PIp X op fun x y H Q => ∃ i j, x = .int i ∧ y = .int j ∧ C i j ∧ Q (.int (g i j)) H
theorem pd_aug {i : Nat} {x : Str} {e : Expr} {te : DE} {op : Operator} {C : Int → Int → Prop} {g : Int → Int → Int} {pos pos' : Pos} (hN : X.N.Nodup) (hi : X.N[i]? = some x) (hx : Loc X.env.scope x) (he : PD X e te) (ho : PIpI X op C g) (hf : X.fn x = true ∨ X.env.scope.names.lookup x = some .local := by first | exact .inl rfl | exact .inr rfl | assumption) :
    PDS X (.AugAssign (.Name x pos') op e pos) (dAug i te C g) :=
  ps_imp (ps_aug hN hi hx he ho hf) fun D σ H ⟨env, s, DD, h1, h2, h3, h4⟩ => by
    unfold dAug at h3
    split at h3
    · rename_i a ha
      obtain ⟨v, e1, e2⟩ := h1.2 i _ ha
      cases (show v = .int a from e2)
      refine ⟨.int a, e1, env, s, _, h1, h2, h3, fun w s1 u H1 q e m r => ?_⟩
      cases w with
      | int b =>
        cases (show u = .int b from r)
        exact ⟨a, b, rfl, rfl, q.1, h4.nx _ _ _ _ q.2 e m ((h1.ext e.ext).set i rfl)⟩
      | _ => exact q.elim
    · exact h3.elim
theorem ia_add : PIpI X .Add (fun _ _ => True) (fun i j => i + j) := fun pins s σ H x y v u Q I r1 r2 ⟨i, j, e1, e2, _, q⟩ => ip_add pins s σ H x y v u Q I r1 r2 ⟨i, j, e1, e2, q⟩
theorem ia_sub : PIpI X .Sub (fun _ _ => True) (fun i j => i - j) := fun pins s σ H x y v u Q I r1 r2 ⟨i, j, e1, e2, _, q⟩ => ip_sub pins s σ H x y v u Q I r1 r2 ⟨i, j, e1, e2, q⟩
theorem ia_mul : PIpI X .Mult CMul (fun i j => i * j) := fun pins s σ H x y v u Q I r1 r2 ⟨i, j, e1, e2, hc, q⟩ => by
  subst e1; subst e2
  obtain ⟨t, rfl⟩ := r1
  obtain ⟨t', rfl⟩ := r2
  exact PyProof.Rows.imul_int ⟨.int _, H, I.tok _, ⟨_, rfl⟩, q⟩ hc.ok
theorem ia_fdiv : PIpI X .FloorDiv CDiv (fun i j => i / j) := fun pins s σ H x y v u Q I r1 r2 ⟨i, j, e1, e2, hc, q⟩ => by
  subst e1; subst e2
  obtain ⟨t, rfl⟩ := r1
  obtain ⟨t', rfl⟩ := r2
  have h1 : (0 : Int) < j := hc.1
  have h2 : j < 1073741824 := hc.2
  exact PyProof.Rows.ifloordiv_int (by omega) ⟨.int _, H, I.tok _, by rw [Int.fdiv_eq_ediv_of_nonneg i (by omega)]; exact ⟨_, rfl⟩, q⟩ (.inl (PyProof.noPylong_small (by omega)))
end
end Dz
namespace Dz
open PySem PySem.Spec PyProof.Rows L2
theorem u65 {k : Nat} {A : Around} (r : Room k A) : A.units + 65 < cLine := by have := r.un; omega
section
variable {X : Cx}
/-- a statement that is never reached -/
def dNever : DS := fun _ _ _ => False
theorem pd_never {st : Stmt} : PDS X st dNever := ⟨fun pins s σ H D I ⟨_, _, _, _, _, h, _⟩ => h.elim⟩
/-! ### in, not in -/
/-- None or a text -/
def noS : D → Option (Option Str)
  | .non => some none
  | .str x => some (some x)
  | _ => none
def noSs : List D → Option (List (Option Str))
  | [] => some []
  | w :: r => (noS w).bind fun a => (noSs r).map fun l => a :: l
def noV : Option Str → V
  | none => .non
  | some x => .str x
theorem noS_rep {K : PySem.W.Frag} {H : Hp} {w : D} {v : V} {a : Option Str} (h : noS w = some a) (r : Rep K H w v) : v = noV a := by
  cases w <;> first | (cases h; exact r) | cases h
theorem noSs_rep {K : PySem.W.Frag} {H : Hp} : ∀ {ws : List D} {vs : List V} {l : List (Option Str)}, noSs ws = some l → Reps K H ws vs → vs = l.map noV
  | [], vs, l, h, r => by cases h; exact r
  | w :: ws, vs, l, h, r => by
    obtain ⟨v, t, rfl, r1, r2⟩ := r
    simp only [noSs] at h
    obtain ⟨a, e1, h⟩ := Option.bind_eq_some_iff.mp h
    obtain ⟨m, e2, rfl⟩ := Option.map_eq_some_iff.mp h
    rw [noS_rep e1 r1, noSs_rep e2 r2]; rfl
theorem flat_no (a : Option Str) : flatV (noV a) = true := by cases a <;> rfl
theorem inV_no (a : Option Str) : ∀ l : List (Option Str), inV (noV a) (l.map noV) = decide (a ∈ l)
  | [] => by simp [inV]
  | b :: l => by
    have ih := inV_no a l
    unfold inV at ih ⊢
    rw [List.map_cons, List.any_cons, ih]
    have e : eqV (noV b) (noV a) = decide (b = a) := by
      cases a with
      | none => cases b <;> simp [noV, eqV]
      | some x =>
        cases b with
        | none => simp [noV, eqV]
        | some y =>
          show (y == x) = _
          by_cases e : y = x
          · simp [e]
          · simp [e, beq_eq_false_iff_ne.mpr e]
    rw [e]
    by_cases h : b = a
    · simp [h]
    · have : ¬ a = b := fun q => h q.symm
      simp [h, this]
def rInU (g : Bool → Bool) : D2 := fun x y s R => match x, y with
  | .str a, .str z => ∃ c : Nat, a = ⟨#[c]⟩ ∧ R (.bl (g (decide (c ∈ z.cps.toList)))) s
  | x, y => (match noS x, (asQ s y).bind noSs with
    | some a, some l => R (.bl (g (decide (a ∈ l)))) s
    | _, _ => (match pyOf s x, pyOf s y with
      | some d, some (.list ds) => SeqAt.shaped d = true ∧ SeqAt.shaped (.list ds) = true ∧ R (.bl (g (ds.any fun z => PyData.eqv z d))) s
      | _, _ => False))
theorem in_flat {K : PySem.W.Frag} {H : Hp} {s : Sg} {w u : D} {x y : V} {a : Option Str} {l : List (Option Str)} (h1 : noS w = some a) (h2 : (asQ s u).bind noSs = some l) (r1 : Rep K H w x) (r2 : Rep K H u y) (m : MRep K H s) : ∃ p xs, y = .ref p ∧ (SqL K H p xs ∨ SqT K H p xs) ∧ flatV x = true ∧ xs.all flatV = true ∧ inV x xs = decide (a ∈ l) := by
  obtain ⟨ws, e1, e2⟩ := Option.bind_eq_some_iff.mp h2
  obtain ⟨p, xs, rfl, f, rs⟩ := asQ_sq e1 r2 m
  cases noS_rep h1 r1
  cases noSs_rep e2 rs
  exact ⟨p, _, rfl, f, flat_no a, by rw [List.all_map]; exact List.all_eq_true.mpr fun b _ => flat_no b, inV_no a l⟩
theorem od_in (hu : X.A.units + 65 < cLine) : OpR X (compareOp .In) (lift2 X.K (rInU id)) := by
  refine op_imp (op_in_sign.or (op_in_seq.or (op_inD hu))) fun x y H Q ⟨w, u, s, R, r1, r2, m, h, p⟩ => ?_
  unfold rInU at h
  split at h
  · rename_i a z
    obtain ⟨c, rfl, h⟩ := h
    exact .inl ⟨c, z, r1, r2, p _ _ _ _ h (.refl _ _) m rfl⟩
  · split at h
    · rename_i a l e1 e2
      obtain ⟨q, xs, rfl, f, g1, g2, g3⟩ := in_flat e1 e2 r1 r2 m
      refine .inr (.inl ⟨q, xs, rfl, f, g1, g2, ?_⟩)
      rw [if_neg Bool.false_ne_true, g3]
      exact p _ _ _ _ h (.refl _ _) m rfl
    · split at h
      · rename_i d ds hd he
        exact .inr (.inr ⟨d, ds, pyOf_dp hd r1 m, pyOf_dp he r2 m, h.1, h.2.1, p _ _ _ _ h.2.2 (.refl _ _) m rfl⟩)
      · exact h.elim
theorem od_notin (hu : X.A.units + 65 < cLine) : OpR X (compareOp .NotIn) (lift2 X.K (rInU (!·))) := by
  refine op_imp (op_notIn_sign.or (op_notIn_seq.or (op_notInD hu))) fun x y H Q ⟨w, u, s, R, r1, r2, m, h, p⟩ => ?_
  unfold rInU at h
  split at h
  · rename_i a z
    obtain ⟨c, rfl, h⟩ := h
    exact .inl ⟨c, z, r1, r2, p _ _ _ _ h (.refl _ _) m rfl⟩
  · split at h
    · rename_i a l e1 e2
      obtain ⟨q, xs, rfl, f, g1, g2, g3⟩ := in_flat e1 e2 r1 r2 m
      refine .inr (.inl ⟨q, xs, rfl, f, g1, g2, ?_⟩)
      rw [if_pos rfl, g3]
      exact p _ _ _ _ h (.refl _ _) m rfl
    · split at h
      · rename_i d ds hd he
        exact .inr (.inr ⟨d, ds, pyOf_dp hd r1 m, pyOf_dp he r2 m, h.1, h.2.1, p _ _ _ _ h.2.2 (.refl _ _) m rfl⟩)
      · exact h.elim
/-- a text among texts, by the list's content -/
theorem rIn_strs {g : Bool → Bool} {a : Str} {y : D} {l : List Str} {s : Sg} {R : KD} (h : asQ s y = some (l.map D.str)) (q : R (.bl (g (decide (a ∈ l)))) s) : rInU g (.str a) y s R := by
  have e : ∀ l : List Str, noSs (l.map D.str) = some (l.map some) := fun l => by
    induction l with
    | nil => rfl
    | cons b l ih => simp only [List.map_cons, noSs, noS, ih, Option.bind_some, Option.map_some]
  have hm : decide (some a ∈ l.map some) = decide (a ∈ l) := by simp
  unfold rInU
  split
  · rename_i b z e1
    cases h
  · simp only [noS, h, Option.bind_some, e]
    rw [hm]
    exact q
abbrev rIn : D2 := rInU id
abbrev rNotIn : D2 := rInU (!·)
end
end Dz
/-! dicts with texts and numbers as keys -/
namespace Dz
open PySem PySem.Spec PyProof.Rows L2

def keyD : D → Option Key
  | .int i => some (.inl i)
  | .str x => some (.inr x)
  | _ => none
theorem keyD_rep {K : PySem.W.Frag} {H : Hp} {w : D} {v : V} {k : Key} (h : keyD w = some k) (r : Rep K H w v) : v = kV k := by
  cases w with
  | int i => cases h; exact r
  | str x => cases h; exact r
  | _ => cases h
def asD (s : Sg) : D → Option (List Key × List D)
  | .dic ks ws => some (ks, ws)
  | .ref a => (match s.M a with
    | some (.dic ks ws) => some (ks, ws)
    | _ => none)
  | _ => none
theorem asD_rd {K : PySem.W.Frag} {H : Hp} {s : Sg} {w : D} {v : V} {ks : List Key} {ws : List D} (h : asD s w = some (ks, ws)) (r : Rep K H w v) (m : MRep K H s) : ∃ a vs, v = .ref a ∧ Rd H a (.dK (ks.zip vs)) ∧ ks.length = vs.length ∧ Reps K H ws vs := by
  cases w with
  | dic us ts =>
    cases h
    obtain ⟨a, vs, o, e, f, l, q⟩ := r
    exact ⟨a, vs, e, .inr ⟨o, f⟩, l, q⟩
  | ref a =>
    dsimp only [asD] at h
    cases hm : s.M a with
    | none => rw [hm] at h; cases h
    | some o =>
      rw [hm] at h
      cases o with
      | dic us ts =>
        cases h
        obtain ⟨vs, e, l, q⟩ := m.at_ a _ hm
        exact ⟨a, vs, r, .inl e, l, q⟩
      | _ => cases h
  | _ => cases h
def dval {α : Type} : List Key → List α → Key → Option α
  | k' :: ks, w :: ws, k => if k' = k then some w else dval ks ws k
  | _, _, _ => none
theorem valV_zip : ∀ (ks : List Key) (vs : List V) (k : Key), valV (ks.zip vs) k = dval ks vs k
  | [], _, _ => rfl
  | _ :: _, [], _ => rfl
  | k' :: ks, v :: vs, k => by
    rw [List.zip_cons_cons]
    unfold dval
    by_cases e : k' = k
    · rw [if_pos e, valV_pos e]
    · rw [if_neg e, valV_neg e]; exact valV_zip ks vs k
theorem Reps.dval {K : PySem.W.Frag} {H : Hp} : ∀ {ks : List Key} {ws : List D} {vs : List V} {k : Key}, Reps K H ws vs → (∀ w, dval ks ws k = some w → ∃ v, Dz.dval ks vs k = some v ∧ Rep K H w v) ∧ (Dz.dval ks ws k = none → Dz.dval ks vs k = none)
  | [], ws, vs, k, r => ⟨fun w h => by simp [Dz.dval] at h, fun _ => by simp [Dz.dval]⟩
  | k' :: ks, [], vs, k, r => by
    cases (show vs = [] from r)
    exact ⟨fun w h => by simp [Dz.dval] at h, fun _ => by simp [Dz.dval]⟩
  | k' :: ks, w :: ws, vs, k, r => by
    obtain ⟨v, t, rfl, r1, r2⟩ := r
    unfold Dz.dval
    by_cases e : k' = k
    · simp only [if_pos e]
      exact ⟨fun z h => by cases h; exact ⟨v, rfl, r1⟩, fun h => nomatch h⟩
    · simp only [if_neg e]
      exact Reps.dval r2
def kput : List Key → Key → List Key
  | [], k => [k]
  | k' :: ks, k => if k' = k then k' :: ks else k' :: kput ks k
def vput {α : Type} : List Key → List α → Key → α → List α
  | k' :: ks, w :: ws, k, x => if k' = k then x :: ws else w :: vput ks ws k x
  | _, ws, _, x => ws ++ [x]
theorem putK_ne {p : Key × V} {r : List (Key × V)} {k : Key} {v : V} (e : ¬ p.1 = k) : putK (p :: r) k v = p :: putK r k v := by
  unfold putK
  simp only [List.any_cons, e, decide_false, Bool.false_or, List.map_cons, if_false]
  split <;> rfl
theorem putK_zip : ∀ {ks : List Key} {vs : List V} {k : Key} {v : V}, ks.Nodup → ks.length = vs.length → putK (ks.zip vs) k v = (kput ks k).zip (vput ks vs k v)
  | [], [], k, v, _, _ => rfl
  | k' :: ks, w :: vs, k, v, nd, l => by
    obtain ⟨n1, n2⟩ := List.nodup_cons.mp nd
    by_cases e : k' = k
    · subst e
      have hm : (ks.zip vs).map (fun kv => if kv.1 = k' then (kv.1, v) else kv) = ks.zip vs := by
        conv => rhs; rw [← List.map_id (ks.zip vs)]
        refine List.map_congr_left fun kv hkv => ?_
        have hk := (List.of_mem_zip hkv).1
        rw [if_neg fun q => n1 (by rw [← q]; exact hk)]
        rfl
      unfold putK
      simp only [List.zip_cons_cons, List.any_cons, decide_true, Bool.true_or, if_true, List.map_cons, hm, kput, vput]
    · rw [List.zip_cons_cons, putK_ne e, putK_zip n2 (by simpa using l)]
      simp only [kput, vput, if_neg e, List.zip_cons_cons]
theorem vput_len {α : Type} : ∀ {ks : List Key} {ws : List α} {k : Key} {x : α}, ks.length = ws.length → (vput ks ws k x).length = (kput ks k).length
  | [], [], k, x, _ => rfl
  | k' :: ks, w :: ws, k, x, l => by
    by_cases e : k' = k
    · simp only [kput, vput, if_pos e]; simpa using l.symm
    · simp only [kput, vput, if_neg e, List.length_cons, vput_len (ks := ks) (ws := ws) (by simpa using l)]
theorem kput_len : ∀ {ks : List Key} {k : Key}, (kput ks k).length ≤ ks.length + 1
  | [], k => Nat.le_refl _
  | k' :: ks, k => by
    unfold kput
    split
    · simp
    · simp only [List.length_cons]; have := kput_len (ks := ks) (k := k); omega
theorem mem_kput : ∀ {ks : List Key} {k x : Key}, x ∈ kput ks k → x = k ∨ x ∈ ks
  | [], k, x, h => .inl (List.mem_singleton.mp h)
  | k' :: ks, k, x, h => by
    unfold kput at h
    split at h
    · exact .inr h
    · rcases List.mem_cons.mp h with h | h
      · exact .inr (by rw [h]; exact List.mem_cons_self)
      · exact (mem_kput h).imp id (List.mem_cons_of_mem _)
theorem kput_nodup : ∀ {ks : List Key} {k : Key}, ks.Nodup → (kput ks k).Nodup
  | [], k, _ => by simp [kput]
  | k' :: ks, k, h => by
    obtain ⟨n1, n2⟩ := List.nodup_cons.mp h
    unfold kput
    split
    · exact h
    · rename_i e
      refine List.nodup_cons.mpr ⟨fun q => ?_, kput_nodup n2⟩
      rcases mem_kput q with q | q
      · exact e q
      · exact n1 q
theorem Reps.vput {K : PySem.W.Frag} {H : Hp} {w : D} {v : V} {k : Key} (q : Rep K H w v) : ∀ {ks : List Key} {ws : List D} {vs : List V}, Reps K H ws vs → Reps K H (Dz.vput ks ws k w) (Dz.vput ks vs k v)
  | [], ws, vs, r => by unfold Dz.vput; exact r.append ⟨v, [], rfl, q, rfl⟩
  | k' :: ks, [], vs, r => by
    cases (show vs = [] from r)
    exact ⟨v, [], rfl, q, rfl⟩
  | k' :: ks, u :: ws, vs, r => by
    obtain ⟨y, t, rfl, r1, r2⟩ := r
    unfold Dz.vput
    by_cases e : k' = k
    · rw [if_pos e, if_pos e]; exact ⟨v, t, rfl, q, r2⟩
    · rw [if_neg e, if_neg e]; exact ⟨y, _, rfl, r1, Reps.vput q r2⟩
theorem dval_put {α : Type} : ∀ {ks : List Key} {ws : List α} {k k' : Key} {x : α}, ks.length = ws.length → dval (kput ks k) (vput ks ws k x) k' = if k' = k then some x else dval ks ws k'
  | [], [], k, k', x, l => by
    simp only [kput, List.nil_append, vput, dval]
    by_cases e : k = k'
    · simp [e]
    · have : ¬ k' = k := fun q => e q.symm
      simp [e, this]
  | k0 :: ks, w :: ws, k, k', x, l => by
    have ih := dval_put (ks := ks) (ws := ws) (k := k) (k' := k') (x := x) (by simpa using l)
    by_cases e : k0 = k
    · subst e
      simp only [kput, vput, if_true, dval]
      by_cases e2 : k0 = k'
      · simp [e2]
      · have : ¬ k' = k0 := fun q => e2 q.symm
        simp [e2, this]
    · simp only [kput, vput, if_neg e, dval]
      by_cases e2 : k0 = k'
      · subst e2; simp [e]
      · rw [if_neg e2, if_neg e2]; exact ih
section
variable {X : Cx} {o i e f : Expr} {td ti tx : DE} {pos apos cpos : Pos}
/-- d[k] -/
def rDGet (x y : D) (s : Sg) (R : KD) : Prop := match keyD y, asD s x with
  | some k, some (ks, ws) => (match dval ks ws k with
    | some w => R w s
    | none => False)
  | _, _ => False
def dDGet (td ti : DE) : DE := fun env s R => td env s fun x s1 => ti env s1 fun y s2 => rDGet x y s2 R
theorem pd_dget (hu : X.A.units + 1 < cLine) (ho : PD X o td) (hi : PD X i ti) (hs : NoSl i) : PD X (.Subscript o i pos) (dDGet td ti) :=
  pe_imp (pe_dget hu ho hi hs) fun σ H Q ⟨env, s, R, h1, h2, h3, h4⟩ => ⟨env, s, _, h1, h2, h3, fun x s1 v H1 q e1 m1 r1 => ⟨env, s1, _, h1.ext e1.ext, m1, q, fun y s2 u H2 q2 e2 m2 r2 => by
    unfold rDGet at q2
    split at q2
    · rename_i k ks ws hk hd
      obtain ⟨a, vs, rfl, rd, l, rs⟩ := asD_rd hd (Rep.ext e2.ext _ _ r1) m2
      split at q2
      · rename_i w hw
        obtain ⟨z, hz, rz⟩ := (Reps.dval rs).1 w hw
        exact ⟨a, z, rfl, .inl ⟨_, k, rd, keyD_rep hk r2, by rw [valV_zip, hz]⟩, h4 w s2 z H2 q2 (e1.trans e2) m2 rz⟩
      · exact q2.elim
    · exact q2.elim⟩⟩
/-- d.get(k, z) -/
def dDGet2 (td ti tx : DE) : DE := fun env s R => td env s fun x s1 => (asD s1 x ≠ none) ∧ ti env s1 fun y s2 => tx env s2 fun z s3 => match keyD y, asD s3 x with
  | some k, some (ks, ws) => R ((dval ks ws k).getD z) s3
  | _, _ => False
theorem pd_dget2 (hu : X.A.units + 1 < cLine) (ho : PD X o td) (hi : PD X e ti) (hf : PD X f tx) (m : M2 X o "get" apos e f cpos) : PD X (.Call (.Attribute o "get" apos) [e, f] [] cpos) (dDGet2 td ti tx) :=
  pe_imp (pe_dget2 hu ho hi hf m) fun σ H Q ⟨env, s, R, h1, h2, h3, h4⟩ => ⟨env, s, _, h1, h2, h3, fun x s1 v H1 ⟨n0, q⟩ e1 m1 r1 => by
    cases hd0 : asD s1 x with
    | none => exact absurd hd0 n0
    | some p =>
      obtain ⟨ks0, ws0⟩ := p
      obtain ⟨a, vs0, rfl, rd0, _, _⟩ := asD_rd hd0 r1 m1
      refine ⟨a, rfl, .inl ⟨_, rd0⟩, env, s1, _, h1.ext e1.ext, m1, q, fun y s2 u H2 q2 e2 m2 r2 => ⟨env, s2, _, (h1.ext e1.ext).ext e2.ext, m2, q2, fun z s3 u3 H3 q3 e3 m3 r3 => ?_⟩⟩
      split at q3
      · rename_i k ks ws hk hd
        obtain ⟨a', vs, e', rd, l, rs⟩ := asD_rd hd (Rep.ext e3.ext _ _ (Rep.ext e2.ext _ _ r1)) m3
        cases e'
        refine ⟨_, .inl ⟨_, k, rd, keyD_rep hk (Rep.ext e3.ext _ _ r2), rfl⟩, ?_⟩
        rw [valV_zip]
        cases hv : dval ks ws k with
        | some w =>
          obtain ⟨t, ht, rt⟩ := (Reps.dval rs).1 w hv
          rw [hv] at q3
          rw [ht]
          exact h4 w s3 t H3 q3 ((e1.trans e2).trans e3) m3 rt
        | none =>
          rw [hv] at q3
          rw [(Reps.dval rs).2 hv]
          exact h4 z s3 u3 H3 q3 ((e1.trans e2).trans e3) m3 r3
      · exact q3.elim⟩
/-- k in d, k not in d -/
def dDIn (g : Bool → Bool) (ti td : DE) : DE := fun env s R => ti env s fun y s1 => td env s1 fun x s2 => match keyD y, asD s2 x with
  | some k, some (ks, ws) => R (.bl (g (dval ks ws k).isSome)) s2
  | _, _ => False
theorem din_imp (K : PySem.W.Frag) : ∀ σ H Q, liftE K (dDIn id ti td) σ H Q → tDIn (liftE K ti) (liftE K td) σ H Q := fun σ H Q ⟨env, s, R, h1, h2, h3, h4⟩ =>
  ⟨env, s, _, h1, h2, h3, fun y s1 v H1 q e1 m1 r1 => ⟨env, s1, _, h1.ext e1.ext, m1, q, fun x s2 u H2 q2 e2 m2 r2 => by
    split at q2
    · rename_i k ks ws hk hd
      obtain ⟨a, vs, rfl, rd, l, rs⟩ := asD_rd hd r2 m2
      refine ⟨a, _, rfl, .inl ⟨_, k, rd, keyD_rep hk (Rep.ext e2.ext _ _ r1), rfl⟩, ?_⟩
      rw [valV_zip]
      have e : (dval ks vs k).isSome = (dval ks ws k).isSome := by
        cases hv : dval ks ws k with
        | some w => obtain ⟨t, ht, _⟩ := (Reps.dval rs).1 w hv; rw [ht]; rfl
        | none => rw [(Reps.dval rs).2 hv]; rfl
      rw [e]
      exact h4 _ s2 _ H2 q2 (e1.trans e2) m2 rfl
    · exact q2.elim⟩⟩
theorem dnin_imp (K : PySem.W.Frag) : ∀ σ H Q, liftE K (dDIn (!·) ti td) σ H Q → tDNotIn (liftE K ti) (liftE K td) σ H Q := fun σ H Q ⟨env, s, R, h1, h2, h3, h4⟩ =>
  ⟨env, s, _, h1, h2, h3, fun y s1 v H1 q e1 m1 r1 => ⟨env, s1, _, h1.ext e1.ext, m1, q, fun x s2 u H2 q2 e2 m2 r2 => by
    split at q2
    · rename_i k ks ws hk hd
      obtain ⟨a, vs, rfl, rd, l, rs⟩ := asD_rd hd r2 m2
      refine ⟨a, _, rfl, .inl ⟨_, k, rd, keyD_rep hk (Rep.ext e2.ext _ _ r1), rfl⟩, ?_⟩
      rw [valV_zip]
      have e : (dval ks vs k).isSome = (dval ks ws k).isSome := by
        cases hv : dval ks ws k with
        | some w => obtain ⟨t, ht, _⟩ := (Reps.dval rs).1 w hv; rw [ht]; rfl
        | none => rw [(Reps.dval rs).2 hv]; rfl
      rw [e]
      exact h4 _ s2 _ H2 q2 (e1.trans e2) m2 rfl
    · exact q2.elim⟩⟩
theorem pd_din (hu : X.A.units + 1 < cLine) (hi : PD X i ti) (ho : PD X o td) (hm : behindInMarks .In o = false) : PD X (.Compare i [.In] [o] pos) (dDIn id ti td) := pe_imp (pe_cmp (pc_din hu hi ho) hm) (din_imp X.K)
theorem pd_dnotin (hu : X.A.units + 1 < cLine) (hi : PD X i ti) (ho : PD X o td) (hm : behindInMarks .NotIn o = false) : PD X (.Compare i [.NotIn] [o] pos) (dDIn (!·) ti td) := pe_imp (pe_cmp (pc_dnotin hu hi ho) hm) (dnin_imp X.K)
end
end Dz
/-! dicts that change; dict comprehensions; tuple, max, star -/
namespace Dz
open PySem PySem.Spec PyProof.Rows L2
section
variable {X : Cx} {o i e f : Expr} {td ti tv : DE} {pos pos' : Pos}
/-- d[k] = v -/
def rDSet (DD : DEnds) (env : Ev) (w x y : D) (s : Sg) : Prop := match x, keyD y with
  | .ref a, some k => (match s.M a with
    | some (.dic ks ws) => ks.Nodup ∧ ks.length < 1000000 ∧ DD.nx env (s.put a (.dic (kput ks k) (vput ks ws k w)))
    | _ => False)
  | _, _ => False
def dDSet (tv td ti : DE) : DS := fun DD env s => tv env s fun w s1 => td env s1 fun x s2 => ti env s2 fun y s3 => rDSet DD env w x y s3
theorem pd_dset (hu : X.A.units + 1 < cLine) (ho : PD X o td) (hi : PD X i ti) (hv : PD X e tv) (hs : swapsWith e (some (.Subscript o i pos')) pos.line X.env = pure false := by rfl) : PDS X (.Assign [.Subscript o i pos'] e pos) (dDSet tv td ti) :=
  ps_imp (ps_dput hu ho hi hv hs) fun D σ H ⟨env, s, DD, h1, h2, h3, h4⟩ => ⟨env, s, _, h1, h2, h3, fun w s1 v H1 q1 e1 m1 r1 => ⟨env, s1, _, h1.ext e1.ext, m1, q1, fun x s2 u H2 q2 e2 m2 r2 => ⟨env, s2, _, (h1.ext e1.ext).ext e2.ext, m2, q2, fun y s3 z H3 q3 e3 m3 r3 => by
    unfold rDSet at q3
    split at q3
    · rename_i a k hk
      split at q3
      · rename_i ks ws hm
        obtain ⟨vs, hH, l, rs⟩ := m3.at_ a _ hm
        have mu := (m3.at_ a _ hm).mut
        have rw1 := Rep.ext e3.ext _ _ (Rep.ext e2.ext _ _ r1)
        cases (show u = .ref a from r2)
        have ex : Ext H3 (upd H3 a (.dK ((kput ks k).zip (vput ks vs k v)))) := .put mu
        refine ⟨a, _, rfl, .inl ⟨_, k, hH, keyD_rep hk r3, ?_, rfl⟩, ?_⟩
        · rw [List.length_zip, ← l, Nat.min_self]; exact Nat.lt_of_lt_of_le q3.2.1 mil
        · rw [putK_zip q3.1 l]
          exact h4.nx _ _ _ _ q3.2.2 (((e1.trans e2).trans e3).trans (.put (.inr ⟨mu, by rw [hm]; simp⟩))) (m3.write (.inr ⟨_, hm, fun _ => nofun⟩) (fun _ => nofun) ⟨vput ks vs k v, upd_same, (vput_len l).symm, Reps.ext ex _ _ (Reps.vput rw1 rs)⟩) ((((h1.ext e1.ext).ext e2.ext).ext e3.ext).ext ex)
      · exact q3.elim
    · exact q3.elim⟩⟩⟩
/-! a new dict -/
abbrev DK2 := List Key → List D → Sg → Prop
abbrev DN2 := Ev → Sg → DK2 → Prop
def tNewD (K : PySem.W.Frag) (t : DN2) : TE := fun σ H Q => ∃ env s R, REnv K H env σ ∧ MRep K H s ∧ t env s R ∧ ∀ ks ws s1 vs H1, R ks ws s1 → Stp H s H1 s1 → MRep K H1 s1 → Reps K H1 ws vs → ks.length = vs.length → ks.Nodup → ∀ p, H1 p = none → Q (.ref p) (upd H1 p (.dK (ks.zip vs)))
abbrev PND (X : Cx) (e : Expr) (t : DN2) : Prop := PE X e (tNewD X.K t)
def dDF (t : DN2) : DE := fun env s R => t env s fun ks ws s1 => ks.Nodup → ks.length = ws.length → R (.dic ks ws) s1
def dDM (t : DN2) : DE := fun env s R => t env s fun ks ws s1 => ks.Nodup → ks.length = ws.length → ∀ p, s1.M p = none → R (.ref p) (s1.put p (.dic ks ws))
theorem pd_DF {t : DN2} (h : PND X e t) : PD X e (dDF t) :=
  pe_imp (pe_frz h) fun σ H Q ⟨env, s, R, h1, h2, h3, h4⟩ => ⟨env, s, _, h1, h2, h3, fun ks ws s1 vs H1 q e1 m1 r1 l nd p hp => ⟨p, _, rfl, upd_same, trivial, fun o => by
    rw [upd_upd]
    exact h4 (.dic ks ws) s1 (.ref p) _ (q nd (l.trans r1.len.symm)) (e1.trans (.new hp)) (m1.new hp) ⟨p, vs, o, rfl, upd_same, l, Reps.ext (.new hp) _ _ r1⟩⟩⟩
theorem pd_DM {t : DN2} (h : PND X e t) : PD X e (dDM t) :=
  pe_imp h fun σ H Q ⟨env, s, R, h1, h2, h3, h4⟩ => ⟨env, s, _, h1, h2, h3, fun ks ws s1 vs H1 q e1 m1 r1 l nd p hp =>
    h4 (.ref p) _ (.ref p) _ (q nd (l.trans r1.len.symm) p (m1.free hp)) (e1.trans (.put (.inl hp))) (m1.write (.inl hp) (fun _ => nofun) ⟨vs, upd_same, l, Reps.ext (.new hp) _ _ r1⟩) rfl⟩
/-- {} -/
def dD0 : DN2 := fun _ s R => R [] [] s
theorem nd_empty : PND X (.Dict [] [] pos) dD0 :=
  pe_imp pe_dnewK fun σ H Q ⟨env, s, R, h1, h2, h3, h4⟩ => fun p hp => h4 [] [] s [] H h3 (.refl _ _) h2 rfl rfl List.nodup_nil p hp
/-- dict comprehensions -/
def dDcL (w : D) (ws : List D) (g : DG) (tt : DT) (tk tv : DE) (vs : List Nat) (env : Ev) (R : DK2) : List D → List Key → List D → Sg → Prop
  | [], ks, us, s => asI s w = some ws ∧ R ks us s
  | x :: r, ks, us, s => asI s w = some ws ∧ g x (wipeD env vs) s fun env2 s2 => tt env2 s2 fun b s3 => if b = true then tk env2 s3 fun y s4 => tv env2 s4 fun z s5 => (match keyD y with
    | some k => us.length < 1000000 ∧ dDcL w ws g tt tk tv vs env R r (kput ks k) (vput ks us k z) s5
    | none => False) else dDcL w ws g tt tk tv vs env R r ks us s3
def dDc (it : DI) (g : DG) (tt : DT) (tk tv : DE) (vs : List Nat) : DN2 := fun env s R => it env s fun w ws s1 => dDcL w ws g tt tk tv vs env R ws [] [] s1
theorem dDcL_alive {w : D} {ws : List D} {g : DG} {tt : DT} {tk tv : DE} {vs : List Nat} {env : Ev} {R : DK2} {l : List D} {ks : List Key} {us : List D} {s : Sg} (h : dDcL w ws g tt tk tv vs env R l ks us s) : asI s w = some ws := by cases l <;> exact h.1
theorem dc_imp {K : PySem.W.Frag} {it : DI} {g : DG} {gv : TG} {tt : DT} {tk tv : DE} {vs : List Nat} (gi : GI K g gv) (wi : Wi vs gv) : ∀ σ H Q, tNewD K (dDc it g tt tk tv vs) σ H Q → tDc (liftI K it) gv (liftT K tt) (liftE K tk) (liftE K tv) vs σ H Q := fun σ H Q ⟨env, s, R, h1, h2, h3, h4⟩ => by
  refine ⟨env, s, _, h1, h2, h3, fun w ws s1 H1 J q e1 m1 hw ok => ?_⟩
  intro L hL
  refine ⟨fun i m H' => m = ws.length - i ∧ i ≤ ws.length ∧ ∃ s' ks us ts, H' L = some (.dK (ks.zip ts)) ∧ ks.length = ts.length ∧ ks.Nodup ∧ Reps K H' us ts ∧ MRep K H' s' ∧ s'.M L = none ∧ L ∉ s'.pv ∧ Stp H1 s1 H' s' ∧ dDcL w ws g tt tk tv vs env R (ws.drop i) ks us s',
    ⟨_, rfl, Nat.zero_le _, s1, [], [], [], upd_same, rfl, List.nodup_nil, rfl, m1.new hL, m1.free hL, m1.npv hL, .new hL, q⟩, ?_⟩
  rintro i m H' ⟨rfl, hi, s', ks, us, ts, z1, y1, y2, z2, z3, z4, z5, z6, z7⟩
  obtain ⟨o1, o2⟩ := ok H' s' z6.ext z3 (dDcL_alive z7) i
  have mu : Mut (H' L) := by rw [z1]; trivial
  by_cases hlt : i < ws.length
  · obtain ⟨go, yl⟩ := o1 ws[i] (by simp [hlt])
    rw [List.drop_eq_getElem_cons hlt] at z7
    refine .inr ⟨go, fun H2 => ∃ s2 ks us ts, H2 L = some (.dK (ks.zip ts)) ∧ ks.length = ts.length ∧ ks.Nodup ∧ Reps K H2 us ts ∧ MRep K H2 s2 ∧ s2.M L = none ∧ L ∉ s2.pv ∧ Stp H1 s1 H2 s2 ∧ dDcL w ws g tt tk tv vs env R (ws.drop (i + 1)) ks us s2, fun H2 z => ⟨ws.length - (i + 1), by omega, rfl, hlt, z⟩, fun v H2 y => ?_⟩
    obtain ⟨rv, e2, m2, kp⟩ := yl v H2 y
    refine wi.mono _ _ _ _ _ (fun σ2 H3 z => ⟨z.1.trans (wipe_idem vs fun _ h => h), z.2⟩) (wi.wi _ _ _ _ ?_)
    refine gi _ _ _ _ ⟨ws[i], wipeD env vs, s', _, rv, REnv.wipe (((h1.ext e1.ext).ext z6.ext).ext e2.ext) vs, m2, z7.2, fun env2 s2 σ2 H3 q2 e3 m3 r3 => ?_⟩
    refine ⟨env2, s2, _, r3, m3, q2, fun b s3 H4 q3 e4 m4 => ?_⟩
    cases b with
    | true =>
      rw [if_pos rfl] at q3 ⊢
      refine ⟨env2, s3, _, r3.ext e4.ext, m4, q3, fun yy s4 v5 H5 q5 e5 m5 r5 => ⟨env2, s4, _, (r3.ext e4.ext).ext e5.ext, m5, q5, fun zz s6 v6 H6 q6 e6 m6 r6 => ?_⟩⟩
      split at q6
      · rename_i k hk
        have et := e2.trans (e3.trans (e4.trans (e5.trans e6)))
        obtain ⟨f1, f2, f3⟩ := et.fr L _ z1 trivial z4 z5
        have mu6 : Mut (H6 L) := by rw [f1]; trivial
        have ex : Ext H6 (upd H6 L (.dK ((kput ks k).zip (vput ks ts k v6)))) := .put mu6
        refine ⟨_, k, keyD_rep hk (Rep.ext e6.ext _ _ r5), f1, ?_, ?_⟩
        · rw [List.length_zip, y1, Nat.min_self, ← z2.len]; exact mil1 q6.1
        · rw [putK_zip y2 y1]
          exact ⟨s6, _, _, vput ks ts k v6, upd_same, (vput_len y1).symm, kput_nodup y2, Reps.ext ex _ _ (Reps.vput r6 (Reps.ext et.ext _ _ z2)), m6.side ex (fun b hb => upd_ne hb) f2 f3, f2, f3, (z6.trans et).side ex hL fun b hb => upd_ne hb, q6.2⟩
      · exact q6.elim
    | false =>
      rw [if_neg Bool.false_ne_true] at q3 ⊢
      have et := e2.trans (e3.trans e4)
      obtain ⟨f1, f2, f3⟩ := et.fr L _ z1 trivial z4 z5
      exact ⟨s3, ks, us, ts, f1, y1, y2, Reps.ext et.ext _ _ z2, m4, f2, f3, z6.trans et, q3⟩
  · have ei : i = ws.length := by omega
    subst ei
    rw [List.drop_length] at z7
    refine .inl ⟨o2 (Nat.le_refl _), ?_⟩
    have := h4 ks us s' ts (hid H' L) z7.2 (e1.trans (z6.side (ext_hid mu) hL fun b hb => hid_ne hb)) (z3.side (ext_hid mu) (fun b hb => hid_ne hb) z4 z5) (Reps.ext (ext_hid mu) _ _ z2) y1 y2 L hid_same
    rw [hid_back z1] at this
    exact this
theorem nd_dc {kx vx tg iter : Expr} {ifs : List Expr} {scope : Scope} {own : List (Str × Nat)} {it : DI} {g : DG} {gv : TG} {tt : DT} {tk tv : DE} (gi : GI X.K g gv) (wi : Wi (own.map (·.2)) gv) (hc : X.calm = true) (hN : X.N.Nodup) (hi : PDI X tg iter it) (ok : BlkOk X.N X.env.scope scope own)
    (hg : ∀ (s : Shared) (H : Hp) (C : Addr) (cl : List (Str × Addr)) (fp : List Addr), PG (X.blk s H scope (compEnvC scope cl C X.env) fp) tg gv) (ht : ∀ (s : Shared) (H : Hp) (C : Addr) (cl : List (Str × Addr)) (fp : List Addr), PDTs (X.blk s H scope (compEnvC scope cl C X.env) fp) ifs tt)
    (hk : ∀ (s : Shared) (H : Hp) (C : Addr) (cl : List (Str × Addr)) (fp : List Addr), PD (X.blk s H scope (compEnvC scope cl C X.env) fp) kx tk) (he : ∀ (s : Shared) (H : Hp) (C : Addr) (cl : List (Str × Addr)) (fp : List Addr), PD (X.blk s H scope (compEnvC scope cl C X.env) fp) vx tv)
    (hs : ∀ x, foldedSetIterable iter X.env x = pure x := by intro _; rfl) : PND X (.DictComp kx vx [⟨tg, iter, ifs, 0⟩] scope pos) (dDc it g tt tk tv (own.map (·.2))) := pe_imp (pe_dc hc hN hi ok hg ht hk he hs) (dc_imp gi wi)
/-! tuple(xs) -/
def rTupU : DL := fun ws s R => match ws with
  | [.tup us] => R (.tup us) s
  | [w] => (match asL s w with
    | some us => R (.tup us) s
    | none => False)
  | _ => False
theorem cd_tuple : CallR X (.type "tuple") (liftL X.K rTupU) := by
  refine call_imp call_tupleN fun xs H Q ⟨ws, s, R, r, m, h, p⟩ => ?_
  unfold rTupU at h
  split at h
  · rename_i us
    obtain ⟨v, t, rfl, r1, r2⟩ := r
    cases (show t = [] from r2)
    obtain ⟨a, vs, rfl, f, q⟩ := id r1
    exact ⟨a, vs, rfl, .inr ⟨f.1, p _ _ _ _ h (.refl _ _) m r1⟩⟩
  · rename_i w _
    obtain ⟨v, t, rfl, r1, r2⟩ := r
    cases (show t = [] from r2)
    split at h
    · rename_i us hus
      obtain ⟨a, vs, rfl, f, q⟩ := asL_sq hus r1 m
      exact ⟨a, vs, rfl, .inl ⟨f, fun l o hl ho => p _ _ _ _ h (.new hl) (m.new hl) ⟨l, vs, rfl, .new ho, Reps.ext (.new hl) _ _ q⟩⟩⟩
    · exact h.elim
  · exact h.elim
/-! max(xs) -/
def rMaxU : DL := fun ws s R => ∃ (w : D) (ns : List Int), ws = [w] ∧ asL s w = some (ns.map D.int) ∧ 0 < ns.length ∧ ∀ m, m ∈ ns → (∀ y, y ∈ ns → y ≤ m) → R (.int m) s
theorem cd_max (hc : X.calm = true) : CallR X (.builtin "max") (liftL X.K rMaxU) := by
  refine call_imp (cr_max hc) fun xs H Q ⟨ws, s, R, r, m, ⟨w, ns, ew, hw, hl, h⟩, p⟩ => ?_
  subst ew
  obtain ⟨v, t, rfl, r1, r2⟩ := r
  cases (show t = [] from r2)
  obtain ⟨a, vs, rfl, f, q⟩ := asL_sq hw r1 m
  cases q.ints
  exact ⟨a, ns, rfl, f, hl, fun z h1 h2 => p _ _ _ _ (h z h1 h2) (.refl _ _) m rfl⟩
/-! [.., *xs, ..] -/
def dStar (te : DE) (u : DA) : DA := fun env s R => te env s fun x s1 => match asQ s1 x with
  | some ws => u env s1 fun ys s2 => R (ws ++ ys) s2
  | none => False
theorem pda_star {es : List Expr} {te : DE} {u : DA} {p : Pos} (he : PD X e te) (hu : PDA X es u) (hs : starEach (.Starred e p :: es) X.env = (true, eval e X.env) :: starEach es X.env := by rfl) : PDA X (.Starred e p :: es) (dStar te u) :=
  pa_imp (StX.pa_star he hu hs) fun σ H Q ⟨env, s, R, h1, h2, h3, h4⟩ => ⟨env, s, _, h1, h2, h3, fun x s1 v H1 q e1 m1 r1 => by
    split at q
    · rename_i ws hw
      obtain ⟨a, vs, rfl, f, rs⟩ := asQ_sq hw r1 m1
      exact ⟨a, vs, rfl, f.symm, env, s1, _, h1.ext e1.ext, m1, q, fun ys s2 us H2 q2 e2 m2 r2 => h4 _ s2 _ H2 q2 (e1.trans e2) m2 ((Reps.ext e2.ext _ _ rs).append r2)⟩
    · exact q.elim⟩
end
end Dz
/-! sorted of pairs of a text and a number -/
namespace Dz
open PySem PySem.Spec PyProof.Rows L2 SrtO Srt

def strLt (a b : Str) : Prop := a.cps.toList < b.cps.toList
instance (a b : Str) : Decidable (strLt a b) := inferInstanceAs (Decidable (a.cps.toList < b.cps.toList))
def lexS (p q : Str × Int) : Bool := if p.1 = q.1 then decide (p.2 < q.2) else decide (strLt p.1 q.1)
theorem str_ext {a b : Str} (h : a.cps.toList = b.cps.toList) : a = b := by
  obtain ⟨⟨a⟩⟩ := a
  obtain ⟨⟨b⟩⟩ := b
  cases h
  rfl
theorem natl_tri (a b : List Nat) : a < b ∨ a = b ∨ b < a := by
  by_cases h1 : a < b
  · exact .inl h1
  · by_cases h2 : b < a
    · exact .inr (.inr h2)
    · exact .inr (.inl (List.le_antisymm (List.not_lt.mp h2) (List.not_lt.mp h1)))
theorem strLt_tri (a b : Str) : strLt a b ∨ a = b ∨ strLt b a := (natl_tri a.cps.toList b.cps.toList).imp id fun h => h.imp str_ext id
theorem strLt_irr (a : Str) : ¬ strLt a a := List.lt_irrefl _
theorem strLt_trans {a b c : Str} (h : strLt a b) (g : strLt b c) : strLt a c := List.lt_trans h g
theorem lexS_iff {p q : Str × Int} : lexS p q = true ↔ strLt p.1 q.1 ∨ (p.1 = q.1 ∧ p.2 < q.2) := by
  unfold lexS
  by_cases e : p.1 = q.1
  · rw [if_pos e, decide_eq_true_eq]
    exact ⟨fun h => .inr ⟨e, h⟩, fun h => h.elim (fun h => absurd (e ▸ h) (strLt_irr _)) fun h => h.2⟩
  · rw [if_neg e, decide_eq_true_eq]
    exact ⟨fun h => .inl h, fun h => h.elim id fun h => absurd h.1 e⟩
theorem lexS_no {p q : Str × Int} : lexS p q = false ↔ strLt q.1 p.1 ∨ (p.1 = q.1 ∧ q.2 ≤ p.2) := by
  rw [← Bool.not_eq_true, lexS_iff]
  constructor
  · intro h
    rcases strLt_tri p.1 q.1 with t | t | t
    · exact absurd (.inl t) h
    · exact .inr ⟨t, Int.not_lt.mp fun z => h (.inr ⟨t, z⟩)⟩
    · exact .inl t
  · rintro (h | ⟨h1, h2⟩) (g | ⟨g1, g2⟩)
    · exact strLt_irr _ (strLt_trans h g)
    · rw [g1] at h; exact strLt_irr _ h
    · rw [h1] at g; exact strLt_irr _ g
    · omega
theorem swo_lexS {α : Type} (k : α → Str × Int) : Swo fun v u => lexS (k v) (k u) := by
  refine ⟨fun x y h => ?_, fun x y z h1 h2 => ?_⟩
  · have a := lexS_iff.mp h
    refine lexS_no.mpr ?_
    rcases a with a | ⟨a, b⟩
    · exact .inl a
    · exact .inr ⟨a.symm, by omega⟩
  · have a := lexS_no.mp h1
    have b := lexS_no.mp h2
    refine lexS_no.mpr ?_
    rcases a with a | ⟨a1, a2⟩ <;> rcases b with b | ⟨b1, b2⟩
    · exact .inl (strLt_trans a b)
    · exact .inl (by rw [b1]; exact a)
    · exact .inl (by rw [← a1]; exact b)
    · exact .inr ⟨b1.trans a1, by omega⟩
def IsSP (h : Heap) (v : Value) (x : Str) (y : Int) : Prop := ∃ a o t u n, v = .ref a ∧ h.get? a = some o ∧ o.cls = .type "tuple" ∧ o.data = .seq #[.str x t, .int y u] n
theorem IsSP.keeps {h h' : Heap} {v : Value} {x : Str} {y : Int} (p : IsSP h v x y) (k : ∀ b o, h.get? b = some o → o.cls = .type "tuple" → h'.get? b = some o) : IsSP h' v x y := by
  obtain ⟨a, o, t, u, n, e, ho, hc, hd⟩ := p
  exact ⟨a, o, t, u, n, e, k a o ho hc, hc, hd⟩
theorem sp_firsts {h : Heap} : ∀ {vs : List Value}, (∀ v ∈ vs, ∃ x y, IsSP h v x y) → ∃ fs : List Value, PySem.W.KatTups h vs fs ∧ fs.length = vs.length ∧ ∀ f ∈ fs, ∃ x t, f = Value.str x t
  | [], _ => ⟨[], .nil, rfl, fun _ hm => nomatch hm⟩
  | v :: vs, hp => by
    obtain ⟨fs, h1, h2, h3⟩ := sp_firsts (vs := vs) fun z hm => hp z (List.mem_cons_of_mem _ hm)
    obtain ⟨x, y, a, o, t, u, n, rfl, ho, hc, hd⟩ := hp v List.mem_cons_self
    refine ⟨.str x t :: fs, PySem.W.KatTups.cons ho hc hd rfl h1, by simp [h2], fun f hm => ?_⟩
    rcases List.mem_cons.mp hm with rfl | hm
    · exact ⟨x, t, rfl⟩
    · exact h3 f hm
section
variable {prog : Program} {w : World} {A : Around} {E : Value → Shared → Prop} {s : Shared}
theorem sp_cmp {vs : List Value} {k : Value → Str × Int} (hp : ∀ v ∈ vs, IsSP s.heap v (k v).1 (k v).2) : Cmp prog w A s (tuples' true) (fun p => p.1 ∈ vs) (lt2 fun v u => lexS (k v) (k u)) := by
  intro p q hm hm'
  have h1 := hp _ hm
  have h2 := hp _ hm'
  show wpAny (model prog w) A (keyLt' (tuples' true) p.1 q.1) (fun r s' => s' = s ∧ r = lexS (k p.1) (k q.1)) (fun _ _ => False) s
  unfold lexS
  generalize (k p.1).1 = x at h1 ⊢
  generalize (k p.1).2 = y at h1 ⊢
  generalize (k q.1).1 = x' at h2 ⊢
  generalize (k q.1).2 = y' at h2 ⊢
  obtain ⟨a, o, t, u, n, e, ho, hc, hd⟩ := h1
  obtain ⟨a', o', t', u', n', e', ho', hc', hd'⟩ := h2
  rw [e, e']
  refine PySem.W.kat_lt ho hd ho' hd' ?_
  show PySem.W.KatLex prog w A true (decide (2 < 2)) _ [(.str x t, .str x' t'), (.int y u, .int y' u')] 0 s
  refine PySem.W.kat_cons (SeqAt.EqAt.str_str x t x' t' prog w _ _ ?_)
  refine PySem.W.kat_go (fun e1 => ?_) fun e1 => ?_
  · have ex : x = x' := by simpa using e1
    refine PySem.W.kat_yes (PySem.W.kat_cons (SeqAt.EqAt.int_int y u y' u' prog w _ _ ?_))
    refine PySem.W.kat_go (fun e2 => ?_) fun e2 => ?_
    · have ey : y = y' := by simpa using e2
      refine PySem.W.kat_yes (PySem.W.kat_nil ⟨rfl, ?_⟩)
      rw [if_pos ex, ey]
      exact (decide_eq_false (Int.lt_irrefl _)).symm
    · refine PySem.W.kat_no (PySem.W.kat_one _ _ (PyProof.Rows.lt_int ?_))
      exact (show s = s ∧ decide (y < y') = (if x = x' then decide (y < y') else decide (strLt x x')) from ⟨rfl, (if_pos ex).symm⟩)
  · have ex : ¬ x = x' := by simpa using e1
    exact PySem.W.kat_no (PyProof.Rows.oneLt_str ⟨rfl, (if_neg ex).symm⟩)
theorem sp_sortable {a : Addr} {vs : List Value} {k : Value → Str × Int} (h0 : 0 < vs.length) (hp : ∀ v ∈ vs, IsSP s.heap v (k v).1 (k v).2) (ha : ∀ o, s.heap.get? a = some o → o.cls ≠ .type "tuple") : SortableO prog w A s a vs fun v u => lexS (k v) (k u) := by
  intro h' keep
  have hp' : ∀ v ∈ vs, IsSP h' v (k v).1 (k v).2 := fun v hm => (hp v hm).keeps fun b o e c => keep b o (fun z => by subst z; exact ha o e c) e
  obtain ⟨fs, h1, h2, h3⟩ := sp_firsts fun v hm => ⟨_, _, hp' v hm⟩
  refine ⟨tuples' true, fun Q E hq => ?_, sp_cmp hp'⟩
  refine PySem.W.kat_kind (T := .type "str") h1 (by omega) (fun f hm => ?_) (by rfl) ?_
  · obtain ⟨x, t, rfl⟩ := h3 f hm
    exact PySem.W.Looks.now
  · have e : (Value.type "str" != Value.type "tuple") = true := by first | decide +kernel | rfl | decide
    rw [e]
    exact hq
theorem sorted_sp {l : Addr} {vs : List Value} {k : Value → Str × Int} {Q : Value → Shared → Prop} (hl : s.heap.IsList l vs.toArray) (hz : vs.length ≤ sizeLine) (hp : ∀ v ∈ vs, IsSP s.heap v (k v).1 (k v).2)
    (h : ∀ (h' : Heap) (d : Addr) (out : List Value), Srtd (fun v u => lexS (k v) (k u)) out → out.Perm vs → (∀ b o, s.heap.get? b = some o → h'.get? b = some o) → s.heap.objs.size ≤ d → (∃ n, h'.get? d = some (seqObj "list" out.toArray n)) → Q (.ref d) { s with heap := h' }) :
    wpAny (model prog w) A (call (.builtin "sorted") [.ref l]) Q E s := by
  refine sorted_ord (swo_lexS k) hl hz (fun h2 h₁ a ha kk => ?_) fun out hs hb => ?_
  · refine sp_sortable (s := { s with heap := h₁ }) (by omega) (fun v hm => (hp v hm).keeps fun b o e _ => (kk b o e).2) fun o e => ?_
    cases (show some o = some (seqObj "list" vs.toArray 0) from e.symm.trans ha)
    intro c
    exact absurd (Value.type.inj c) (by decide)
  · exact h _ _ out hs hb.perm (fun b o e => sortedAll_old e) (Nat.le_succ _) (sortedAll_at s.heap vs out.toArray)
end
abbrev prD (p : Str × Int) : D := .tup [.str p.1, .int p.2]
def spOf (h : Heap) : Value → Str × Int
  | .ref a => (match h.get? a with
    | some o => (match o.data with
      | .seq xs _ => (match (xs[0]? : Option Value), (xs[1]? : Option Value) with
        | some (Value.str x _), some (Value.int y _) => (x, y)
        | _, _ => default)
      | _ => default)
    | none => default)
  | _ => default
theorem spOf_eq {h : Heap} {v : Value} {x : Str} {y : Int} (p : IsSP h v x y) : spOf h v = (x, y) := by
  obtain ⟨a, o, t, u, n, rfl, ho, hc, hd⟩ := p
  unfold spOf
  simp only [ho, hd]
  rfl
section
variable {X : Cx}
/-- sorted of a list of such pairs: a new list -/
def rSortP : DN := fun ws s R => ∃ (w : D) (ps : List (Str × Int)), ws = [w] ∧ asL s w = some (ps.map prD) ∧ ∀ qs : List (Str × Int), qs.Perm ps → qs.Pairwise (fun p q => lexS q p = false) → R (qs.map prD) s
theorem rep_sp {pins : List (Addr × Obj)} {σ : L2.St} {H : Hp} {s : Shared} (I : Inv X pins σ H s) {p : Str × Int} {v : V} {u : Value} (r : Rep X.K H (prD p) v) (ru : RelV v u) : IsSP s.heap u p.1 p.2 ∧ ∃ a, v = .ref a ∧ u = .ref a := by
  obtain ⟨a, vs, rfl, f, g⟩ := r
  obtain ⟨v1, t1, rfl, g1, g2⟩ := g
  obtain ⟨v2, t2, rfl, g3, g4⟩ := g2
  cases (show t2 = [] from g4)
  cases (show v1 = .str p.1 from g1)
  cases (show v2 = .int p.2 from g3)
  cases (show u = Value.ref a from ru)
  obtain ⟨its, rv, ⟨o, ho, hc, n, hd⟩, _⟩ := I.tuple f.1
  obtain ⟨u1, u2, rfl, ri, rj⟩ := vals2 rv
  obtain ⟨t1, rfl⟩ := ri
  obtain ⟨t2, rfl⟩ := rj
  exact ⟨⟨a, o, t1, t2, n, rfl, ho, hc, hd⟩, a, rfl, rfl⟩
theorem reps_sp {pins : List (Addr × Obj)} {σ : L2.St} {H : Hp} {s : Shared} (I : Inv X pins σ H s) : ∀ {ps : List (Str × Int)} {vs : List V} {us : List Value}, Reps X.K H (ps.map prD) vs → Vals vs us → us.map (spOf s.heap) = ps ∧ ∀ u ∈ us, IsSP s.heap u (spOf s.heap u).1 (spOf s.heap u).2 ∧ Rep X.K H (prD (spOf s.heap u)) (backV u) ∧ ∃ a, u = .ref a
  | [], vs, us, r, ru => by
    cases (show vs = [] from r)
    cases ru
    exact ⟨rfl, fun u hu => nomatch hu⟩
  | p :: ps, vs, us, r, ru => by
    obtain ⟨v, t, rfl, r1, r2⟩ := r
    cases ru with
    | @cons _ u _ us h1 h2 =>
      obtain ⟨e1, e2⟩ := reps_sp I r2 h2
      obtain ⟨q1, a, rfl, rfl⟩ := rep_sp I r1 h1
      have e := spOf_eq q1
      refine ⟨by rw [List.map_cons, e1, e], fun z hz => ?_⟩
      rcases List.mem_cons.mp hz with rfl | hz
      · rw [e]; exact ⟨q1, r1, a, rfl⟩
      · exact e2 z hz
theorem cd_sortP : CallR X (.builtin "sorted") (liftNL X.K rSortP) := by
  intro pins s σ H vs us Q I r ⟨ws, sg, R, rr, m, ⟨w, ps, ew, hw, h⟩, p⟩
  subst ew
  obtain ⟨v, t, rfl, r1, r2⟩ := rr
  cases (show t = [] from r2)
  obtain ⟨a, xs, rfl, f, q⟩ := asL_sq hw r1 m
  obtain ⟨u, rfl, ru⟩ := vals1 r
  cases (show u = Value.ref a from ru)
  obtain ⟨its, rv, hl, hz⟩ := I.list f
  obtain ⟨e1, e2⟩ := reps_sp I q rv
  refine sorted_sp (k := spOf s.heap) hl.isList (by rw [← rv.length]; exact hz) (fun v hv => (e2 v hv).1) fun h' d out h1 h2 kp hd hn => ?_
  have mo : ∀ u ∈ out, u ∈ its := fun u hu => h2.mem_iff.mp hu
  have rs : ∀ l : List Value, (∀ u ∈ l, u ∈ its) → Reps X.K H ((l.map (spOf s.heap)).map prD) (l.map backV) := fun l => by
    induction l with
    | nil => exact fun _ => rfl
    | cons u l ih => exact fun hm => ⟨_, _, rfl, (e2 u (hm u List.mem_cons_self)).2.1, ih fun z hz => hm z (List.mem_cons_of_mem _ hz)⟩
  obtain ⟨n, hn⟩ := hn
  have hb : Vals (out.map backV) out := vals_back fun u hu => (e2 u (mo u hu)).2.2
  have hlen : (out.map backV).length ≤ sizeLine := by rw [List.length_map, h2.length_eq, ← rv.length]; exact hz
  exact ⟨.ref d, upd H d (.lst (out.map backV)), I.laid (t' := s.toks) kp hd ⟨hlen, out, n, hb, hn⟩, rfl, p _ _ _ _ (h _ (by rw [← e1]; exact h2.map _) (List.pairwise_map.mpr h1)) (.refl _ _) m (rs out mo) d (I.hok.fresh hd)⟩
end
end Dz
/-! what a run leaves of the generators that sleep: it is asked of a state in which they cannot be woken -/
namespace Gz
open PySem
open Sem (wp)

def isSusp : GenState → Prop
  | .suspended .. => True
  | _ => False
/-- a sleeper without its body: whoever wakes it is stuck -/
def psn : GenState → GenState
  | .suspended _ l c p fs cl => .suspended (fun _ => .unsupported "") l c p (fs.map fun f => .ret (fun _ => .unsupported "") none false [] f.where_.1 f.where_.2 []) cl
  | x => x
abbrev Zm := Nat → Option GenState
def un (Z : Zm) (s : Shared) : Shared := { s with gens := s.gens.mapIdx fun i x => (Z i).getD x }
structure Zok (Z : Zm) (s : Shared) : Prop where
  psn : ∀ i st, Z i = some st → isSusp st ∧ s.gens[i]? = some (psn st)
  wf : ∀ (i : Nat) k l c p fs cl, s.gens[i]? = some (GenState.suspended k l c p fs cl) → splitAtGen fs = none
theorem seen_psn (st : GenState) : (psn st).seen = st.seen := by
  cases st with
  | suspended k l c p fs cl =>
    simp only [psn, GenState.seen, List.map_map]
    congr 2
  | _ => rfl
theorem bare_psn (st : GenState) : (psn st).bare = st.bare := by cases st <;> rfl
theorem un_size (Z : Zm) (s : Shared) : (un Z s).gens.size = s.gens.size := by simp [un]
theorem un_get (Z : Zm) (s : Shared) (i : Nat) : (un Z s).gens[i]? = (s.gens[i]?).map fun x => (Z i).getD x := by simp [un]
theorem un_get_none {Z : Zm} {s : Shared} {i : Nat} (h : Z i = none) : (un Z s).gens[i]? = s.gens[i]? := by
  rw [un_get, h]; cases s.gens[i]? <;> rfl
theorem un_get_some {Z : Zm} {s : Shared} {i : Nat} {st : GenState} (ok : Zok Z s) (h : Z i = some st) : (un Z s).gens[i]? = some st := by
  rw [un_get, h, (ok.psn i st h).2]; rfl
theorem un_set {Z : Zm} {s : Shared} {g : Nat} {x : GenState} (h : Z g = none) : un Z (s.setGen g x) = (un Z s).setGen g x := by
  unfold un Shared.setGen
  congr 1
  apply Array.ext_getElem?
  intro i
  simp only [Array.getElem?_mapIdx, Array.getElem?_setIfInBounds, Array.size_mapIdx]
  by_cases e : g = i
  · subst e
    simp only [if_pos]
    by_cases hs : g < s.gens.size
    · simp [hs, h]
    · simp [hs]
  · simp [e]
theorem un_push {Z : Zm} {s : Shared} {c : Code} (h : Z s.gens.size = none) : un Z { s with gens := s.gens.push (.fresh c) } = { un Z s with gens := (un Z s).gens.push (.fresh c) } := by
  unfold un
  congr 1
  apply Array.ext_getElem?
  intro i
  simp only [Array.getElem?_mapIdx, Array.getElem?_push, Array.size_mapIdx]
  by_cases e : i = s.gens.size
  · subst e; simp [h]
  · simp [e]
theorem Zok.lt {Z : Zm} {s : Shared} (ok : Zok Z s) {i : Nat} {st : GenState} (h : Z i = some st) : i < s.gens.size := (Array.getElem?_eq_some_iff.mp (ok.psn i st h).2).1
theorem Zok.out {Z : Zm} {s : Shared} (ok : Zok Z s) : Z s.gens.size = none := by
  cases h : Z s.gens.size with
  | none => rfl
  | some st => exact absurd (ok.lt h) (Nat.lt_irrefl _)
theorem Zok.push {Z : Zm} {s : Shared} (ok : Zok Z s) {c : Code} : Zok Z { s with gens := s.gens.push (.fresh c) } where
  psn := fun i st h => ⟨(ok.psn i st h).1, by
    have := ok.lt h
    rw [Array.getElem?_push, if_neg (by omega)]
    exact (ok.psn i st h).2⟩
  wf := fun i k l c' p fs cl h => by
    rw [Array.getElem?_push] at h
    split at h
    · cases h
    · exact ok.wf i k l c' p fs cl h
theorem Zok.none_of {Z : Zm} {s : Shared} (ok : Zok Z s) {g : Nat} {x : GenState} (h : s.gens[g]? = some x) (hx : ∀ st, isSusp st → Gz.psn st ≠ x) : Z g = none := by
  cases q : Z g with
  | none => rfl
  | some st =>
    obtain ⟨a, b⟩ := ok.psn g st q
    rw [h] at b
    exact absurd (Option.some.inj b).symm (hx st a)
theorem Zok.set {Z : Zm} {s : Shared} (ok : Zok Z s) {g : Nat} {x : GenState} (hz : Z g = none) (hx : ∀ k l c p fs cl, x = .suspended k l c p fs cl → splitAtGen fs = none) : Zok Z (s.setGen g x) where
  psn := fun i st h => ⟨(ok.psn i st h).1, by
    have : g ≠ i := fun e => by subst e; rw [hz] at h; cases h
    show (s.gens.setIfInBounds g x)[i]? = _
    rw [Array.getElem?_setIfInBounds, if_neg this]
    exact (ok.psn i st h).2⟩
  wf := fun i k l c p fs cl h => by
    change (s.gens.setIfInBounds g x)[i]? = _ at h
    rw [Array.getElem?_setIfInBounds] at h
    split at h
    · split at h
      · exact hx k l c p fs cl (Option.some.inj h)
      · cases h
    · exact ok.wf i k l c p fs cl h
theorem split_append : ∀ {a b : List Frame}, splitAtGen a = none → splitAtGen b = none → splitAtGen (a ++ b) = none
  | [], b, _, h => h
  | .ret k h g l c p kp :: a, b, h1, h2 => by
    simp only [splitAtGen, Option.map_eq_none_iff] at h1
    simp only [List.cons_append, splitAtGen, Option.map_eq_none_iff]
    exact split_append h1 h2
  | .gen .. :: a, b, h1, _ => by simp [splitAtGen] at h1
theorem split_tail {k h g l c p kp} {a : List Frame} (q : splitAtGen (.ret k h g l c p kp :: a) = none) : splitAtGen a = none := by
  simpa only [splitAtGen, Option.map_eq_none_iff] using q
theorem no_run_un {M : Model} {m : String} {Γ : Ctx} {p : Pos} {fs : List Frame} {s s' : Shared} {e : End} (h : Runs M Γ p (.unsupported m) fs s e s') : False := by
  cases h with
  | segRet h _ => cases h
  | segGen h _ => cases h
  | segSuspOut _ h => cases h
  | segSuspGen _ h _ _ => cases h
/-- where an end leaves frames, there is no generator's frame among them -/
def EndOk : End → Prop
  | .ret _ => True
  | .susp _ _ _ _ _ _ fs => splitAtGen fs = none
theorem EndOk.gs {e : End} (h : EndOk e) : ∀ k l c p fs cl, e.genState = .suspended k l c p fs cl → splitAtGen fs = none := fun k l c p fs cl q => by
  cases e with
  | ret _ => cases q
  | susp v g l₀ k₀ c₀ p₀ fs₀ => cases q; exact h
theorem psn_susp {st : GenState} (h : isSusp st) : ∃ l c p fs cl, psn st = .suspended (fun _ => .unsupported "") l c p fs cl := by
  cases st with
  | suspended k l c p fs cl => exact ⟨_, _, _, _, _, rfl⟩
  | _ => exact h.elim
theorem psn_ne {x : GenState} (hx : ¬ isSusp x) : ∀ st, isSusp st → psn st ≠ x := fun st h q => by
  obtain ⟨_, _, _, _, _, z⟩ := psn_susp h
  rw [← q, z] at hx
  exact hx trivial
theorem runs_un {M : Model} {Z : Zm} {Γ : Ctx} {p : Pos} {t : Sem PySem.Fin} {fs : List Frame} {s s' : Shared} {e : End} (h : Runs M Γ p t fs s e s') : Zok Z s → splitAtGen fs = none → Zok Z s' ∧ EndOk e ∧ Runs M Γ p t fs (un Z s) e (un Z s') := by
  induction h with
  | done => exact fun ok _ => ⟨ok, trivial, .done⟩
  | raise => exact fun ok _ => ⟨ok, trivial, .raise⟩
  | again hq _ ih => exact fun ok n => let ⟨a, b, c⟩ := ih ok n; ⟨a, b, .again hq c⟩
  | rule _ ih => exact fun ok n => let ⟨a, b, c⟩ := ih ok n; ⟨a, b, .rule c⟩
  | «at» _ ih => exact fun ok n => let ⟨a, b, c⟩ := ih ok n; ⟨a, b, .at c⟩
  | load ho _ ih => exact fun ok n => let ⟨a, b, c⟩ := ih ok n; ⟨a, b, .load ho c⟩
  | update ho _ ih => exact fun ok n => let ⟨a, b, c⟩ := ih ⟨ok.psn, ok.wf⟩ n; ⟨a, b, .update ho c⟩
  | loadIfAlive _ ih => exact fun ok n => let ⟨a, b, c⟩ := ih ok n; ⟨a, b, .loadIfAlive c⟩
  | point _ ih => exact fun ok n => let ⟨a, b, c⟩ := ih ok n; ⟨a, b, .point c⟩
  | alloc _ ih => exact fun ok n => let ⟨a, b, c⟩ := ih ⟨ok.psn, ok.wf⟩ n; ⟨a, b, .alloc c⟩
  | fresh _ ih => exact fun ok n => let ⟨a, b, c⟩ := ih ⟨ok.psn, ok.wf⟩ n; ⟨a, b, .fresh c⟩
  | ask _ ih => exact fun ok n => let ⟨a, b, c⟩ := ih ok n; ⟨a, b, .ask c⟩
  | choose h0 _ ih => exact fun ok n => let ⟨a, b, c⟩ := ih ⟨ok.psn, ok.wf⟩ n; ⟨a, b, .choose h0 c⟩
  | os _ ih => exact fun ok n => let ⟨a, b, c⟩ := ih ⟨ok.psn, ok.wf⟩ n; ⟨a, b, .os c⟩
  | handled _ ih => exact fun ok n => let ⟨a, b, c⟩ := ih ok n; ⟨a, b, .handled c⟩
  | genState hg _ ih =>
    rename_i g st _ _ _ _ _ _ _
    intro ok n
    obtain ⟨a, b, c⟩ := ih ok n
    refine ⟨a, b, ?_⟩
    cases q : Z g with
    | none => exact .genState ((un_get_none q).trans hg) c
    | some st' =>
      have e1 := (ok.psn g st' q).2
      rw [hg] at e1
      have e2 : st.seen = st'.seen := by rw [Option.some.inj e1, seen_psn]
      exact .genState (un_get_some ok q) (by rw [← e2]; exact c)
  | stack _ ih => exact fun ok n => let ⟨a, b, c⟩ := ih ok n; ⟨a, b, .stack c⟩
  | thread _ ih => exact fun ok n => let ⟨a, b, c⟩ := ih ok n; ⟨a, b, .thread c⟩
  | newGen _ ih =>
    intro ok n
    obtain ⟨a, b, c⟩ := ih ok.push n
    rw [un_push ok.out] at c
    exact ⟨a, b, .newGen (by rw [un_size]; exact c)⟩
  | call _ _ ih1 ih2 =>
    intro ok n
    obtain ⟨a, _, c⟩ := ih1 ok rfl
    obtain ⟨a2, b2, c2⟩ := ih2 a n
    exact ⟨a2, b2, .call c c2⟩
  | callSusp _ ih =>
    intro ok n
    obtain ⟨a, b, c⟩ := ih ok rfl
    exact ⟨a, split_append b rfl, .callSusp c⟩
  | yield => exact fun ok _ => ⟨ok, rfl, .yield⟩
  | @resumeFresh Γ p g l k s c e₁ s₁ e s' hg _ hq _ ih1 ih2 =>
    intro ok n
    have hz := ok.none_of hg (psn_ne fun z => z)
    obtain ⟨a, b, c1⟩ := ih1 (ok.set hz (fun _ _ _ _ _ _ q => nomatch q)) rfl
    obtain ⟨a2, b2, c2⟩ := ih2 (a.set hz b.gs) n
    rw [un_set hz] at c1 c2
    exact ⟨a2, b2, .resumeFresh ((un_get_none hz).trans hg) c1 hq c2⟩
  | @resumeSuspended Γ p g r l k s k₀ l₀ c₀ p₀ fs cl e₁ s₁ e s' hg h1 hq _ ih1 ih2 =>
    intro ok n
    cases q : Z g with
    | some st =>
      obtain ⟨z1, z2⟩ := ok.psn g st q
      obtain ⟨_, _, _, _, _, z⟩ := psn_susp z1
      rw [hg, z] at z2
      cases z2
      exact (no_run_un h1).elim
    | none =>
      obtain ⟨a, b, c1⟩ := ih1 (ok.set q (fun _ _ _ _ _ _ q => nomatch q)) (ok.wf g _ _ _ _ _ _ hg)
      obtain ⟨a2, b2, c2⟩ := ih2 (a.set q b.gs) n
      rw [un_set q] at c1 c2
      exact ⟨a2, b2, .resumeSuspended ((un_get_none q).trans hg) c1 hq c2⟩
  | @resumeJustStarted s g c v Γ p k e s' l hg hv _ ih =>
    intro ok n
    have hz := ok.none_of hg (psn_ne fun z => z)
    obtain ⟨a, b, c1⟩ := ih ok n
    exact ⟨a, b, .resumeJustStarted ((un_get_none hz).trans hg) hv c1⟩
  | resumeThrowFresh hg _ ih =>
    intro ok n
    have hz := ok.none_of hg (psn_ne fun z => z)
    obtain ⟨a, b, c1⟩ := ih (ok.set hz (fun _ _ _ _ _ _ q => nomatch q)) n
    rw [un_set hz] at c1
    exact ⟨a, b, .resumeThrowFresh ((un_get_none hz).trans hg) c1⟩
  | resumeRunning hg _ ih =>
    intro ok n
    have hz := ok.none_of hg (psn_ne fun z => z)
    obtain ⟨a, b, c1⟩ := ih ok n
    exact ⟨a, b, .resumeRunning ((un_get_none hz).trans hg) c1⟩
  | resumeFinished hg _ ih =>
    intro ok n
    have hz := ok.none_of hg (psn_ne fun z => z)
    obtain ⟨a, b, c1⟩ := ih ok n
    exact ⟨a, b, .resumeFinished ((un_get_none hz).trans hg) c1⟩
  | segRet _ _ ih1 ih2 =>
    intro ok n
    obtain ⟨a, _, c⟩ := ih1 ok rfl
    obtain ⟨a2, b2, c2⟩ := ih2 a (split_tail n)
    exact ⟨a2, b2, .segRet c c2⟩
  | segGen _ _ _ _ => exact fun _ n => by simp [splitAtGen] at n
  | segSuspOut hs _ ih =>
    intro ok n
    obtain ⟨a, b, c⟩ := ih ok rfl
    exact ⟨a, split_append b hs, .segSuspOut hs c⟩
  | segSuspGen hs _ _ _ _ _ => exact fun _ n => by rw [hs] at n; cases n
theorem wakes_un {M : Model} {Z : Zm} {Γ : Ctx} {p : Pos} {g : Nat} {r : Resume} {s s' : Shared} {res : GenResult} (ok : Zok Z s) (h : Wakes M Γ p g r s res s') : Zok Z s' ∧ Wakes M Γ p g r (un Z s) res (un Z s') := by
  unfold Wakes at h ⊢
  cases q : Z g with
  | some st =>
    obtain ⟨z1, z2⟩ := ok.psn g st q
    obtain ⟨_, _, _, _, _, z⟩ := psn_susp z1
    rw [z2, z] at h
    obtain ⟨e₁, s₁, hr, _⟩ := h
    exact (no_run_un hr).elim
  | none =>
    rw [un_get_none q]
    split at h
    · exact h.elim
    · split at h
      · obtain ⟨e₁, s₁, hr, hq, rfl, rfl⟩ := h
        obtain ⟨a, b, c⟩ := runs_un hr (ok.set q (fun _ _ _ _ _ _ q => nomatch q)) rfl
        rw [un_set q] at c
        exact ⟨a.set q b.gs, e₁, un Z s₁, c, hq, rfl, by rw [un_set q]⟩
      · exact ⟨by rw [h.2]; exact ok, h.1, by rw [h.2]⟩
      · exact ⟨by rw [h.2]; exact ok.set q (fun _ _ _ _ _ _ q => nomatch q), h.1, by rw [h.2, un_set q]⟩
    · rename_i k₀ l₀ c₀ p₀ fs cl e
      obtain ⟨e₁, s₁, hr, hq, rfl, rfl⟩ := h
      obtain ⟨a, b, c⟩ := runs_un hr (ok.set q (fun _ _ _ _ _ _ q => nomatch q)) (ok.wf g _ _ _ _ _ _ e)
      rw [un_set q] at c
      exact ⟨a.set q b.gs, e₁, un Z s₁, c, hq, rfl, by rw [un_set q]⟩
    · exact ⟨by rw [h.2]; exact ok, h.1, by rw [h.2]⟩
    · exact ⟨by rw [h.2]; exact ok, h.1, by rw [h.2]⟩
theorem wp_un {α : Type} (M : Model) (Z : Zm) (Γ : Ctx) (t : Sem α) : ∀ (Q : α → Pos → Shared → Prop) (E : Value → Pos → Shared → Prop) (p : Pos) (s : Shared), Zok Z s → wp M Γ t Q E p s →
    wp M Γ t (fun a p' s' => ∃ s1, s' = un Z s1 ∧ Zok Z s1 ∧ Q a p' s1) (fun e p' s' => ∃ s1, s' = un Z s1 ∧ Zok Z s1 ∧ E e p' s1) p (un Z s) := by
  induction t with
  | pure a => intro Q E p s ok h; exact ⟨s, rfl, ok, h⟩
  | raise e => intro Q E p s ok h; exact ⟨s, rfl, ok, h⟩
  | unsupported _ => intro Q E p s _ h; exact h
  | finish _ => intro Q E p s _ h; exact h
  | rule _ k ih => intro Q E p s ok h; exact ih () Q E p s ok h
  | «at» p' k ih => intro Q E p s ok h; exact ih () Q E p' s ok h
  | load a _ k ih => intro Q E p s ok h; obtain ⟨o, ho, h⟩ := h; exact ⟨o, ho, ih o Q E p s ok h⟩
  | update a _ f k ih => intro Q E p s ok h; exact ⟨h.1, ih () Q E p { s with heap := s.heap.update a f } ⟨ok.psn, ok.wf⟩ h.2⟩
  | loadIfAlive a k ih => intro Q E p s ok h; exact ih _ Q E p s ok h
  | point _ k ih => intro Q E p s ok h; exact ih () Q E p s ok h
  | register _ _ => intro Q E p s _ h; exact h
  | alloc o k ih => intro Q E p s ok h; exact ih _ Q E p { s with heap := s.heap.push o } ⟨ok.psn, ok.wf⟩ h
  | fresh k ih => intro Q E p s ok h; exact ih _ Q E p { s with toks := s.toks + 1 } ⟨ok.psn, ok.wf⟩ h
  | ask k ih => intro Q E p s ok h; exact ih _ Q E p s ok h
  | choose src m k ih => intro Q E p s ok h; exact ⟨h.1, ih _ Q E p { s with drawn := s.drawn.bump src } ⟨ok.psn, ok.wf⟩ h.2⟩
  | os q _ k ih => intro Q E p s ok h; exact ih _ Q E p { s with os := (Os.step s.os q).1 } ⟨ok.psn, ok.wf⟩ h
  | call c hd _ _ k ih =>
    intro Q E p s ok h
    obtain ⟨r, s', hr, h⟩ := h
    obtain ⟨a, _, c1⟩ := runs_un hr ok rfl
    exact ⟨r, un Z s', c1, ih r Q E p s' a h⟩
  | handled own k ih => intro Q E p s ok h; exact ih _ Q E p s ok h
  | genState g k ih =>
    intro Q E p s ok h
    obtain ⟨st, hs, h⟩ := h
    cases q : Z g with
    | none => exact ⟨st, (un_get_none q).trans hs, ih _ Q E p s ok h⟩
    | some st' =>
      have e1 := (ok.psn g st' q).2
      rw [hs] at e1
      have e2 : st.seen = st'.seen := by rw [Option.some.inj e1, seen_psn]
      exact ⟨st', un_get_some ok q, by rw [← e2]; exact ih _ Q E p s ok h⟩
  | newGen c k ih =>
    intro Q E p s ok h
    have := ih _ Q E p _ ok.push h
    rw [un_push ok.out] at this
    show wp M Γ (k (un Z s).gens.size) _ _ p _
    rw [un_size]
    exact this
  | resume g r _ k ih =>
    intro Q E p s ok h
    obtain ⟨res, s', hw, h⟩ := h
    obtain ⟨a, b⟩ := wakes_un ok hw
    exact ⟨res, un Z s', b, ih res Q E p s' a h⟩
  | yield _ _ _ _ => intro Q E p s _ h; exact h
  | stack k ih => intro Q E p s ok h; exact ih _ Q E p s ok h
  | fork _ _ => intro Q E p s _ h; exact h
  | thread k ih => intro Q E p s ok h; exact ih _ Q E p s ok h
  | await _ _ _ _ _ => intro Q E p s _ h; exact h
/-- a sleeper as all are: no generator's frame among its frames -/
def isZ : GenState → Prop
  | .suspended _ _ _ _ fs _ => splitAtGen fs = none
  | _ => False
theorem isZ.susp {st : GenState} (h : isZ st) : isSusp st := by cases st <;> first | trivial | exact h
/-- the sleepers of s that S names, and s with them put to sleep for good -/
def zOf (S : Nat → Bool) (s : Shared) : Zm := fun i => match s.gens[i]? with
  | some (.suspended k l c p fs cl) => if S i = true then some (.suspended k l c p fs cl) else none
  | _ => none
def low (S : Nat → Bool) (s : Shared) : Shared := { s with gens := s.gens.mapIdx fun i x => if S i = true then psn x else x }
theorem low_get (S : Nat → Bool) (s : Shared) (i : Nat) : (low S s).gens[i]? = (s.gens[i]?).map fun x => if S i = true then psn x else x := by simp [low]
theorem low_off {S : Nat → Bool} {s : Shared} {i : Nat} (h : S i = false) : (low S s).gens[i]? = s.gens[i]? := by
  rw [low_get, h]; cases s.gens[i]? <;> rfl
theorem low_ok (S : Nat → Bool) (s : Shared) (hS : ∀ i st, S i = false → s.gens[i]? = some st → isSusp st → isZ st) : Zok (zOf S s) (low S s) where
  psn := fun i st h => by
    unfold zOf at h
    split at h
    · rename_i k l c p fs cl e
      split at h
      · rename_i hs
        cases h
        exact ⟨trivial, by rw [low_get, e, hs]; rfl⟩
      · cases h
    · cases h
  wf := fun i k l c p fs cl h => by
    rw [low_get] at h
    obtain ⟨x, e0, e⟩ := Option.map_eq_some_iff.mp h
    cases hs : S i with
    | false =>
      rw [hs] at e
      simp only [Bool.false_eq_true, if_false] at e
      subst e
      exact hS i _ hs e0 trivial
    | true =>
      rw [hs, if_pos rfl] at e
      cases x with
      | suspended k' l' c' p' fs' cl' =>
        simp only [psn, GenState.suspended.injEq] at e
        rw [← e.2.2.2.2.1]
        generalize fs' = z
        induction z with
        | nil => rfl
        | cons f z ih => simp only [List.map_cons, splitAtGen, ih, Option.map_none]
      | _ => simp [psn] at e
theorem un_low (S : Nat → Bool) (s : Shared) : un (zOf S s) (low S s) = s := by
  obtain ⟨h, g, d, t, o⟩ := s
  show Shared.mk h _ d t o = _
  congr 1
  apply Array.ext_getElem?
  intro i
  show ((g.mapIdx _).mapIdx _)[i]? = _
  rw [Array.getElem?_mapIdx, Array.getElem?_mapIdx]
  unfold zOf
  cases e : g[i]? with
  | none => rfl
  | some x => cases hs : S i <;> cases x <;> simp [psn, hs, e]
/-- what a run tells of the state behind it, from what it tells where the sleepers are low -/
structure Woke (S : Nat → Bool) (s s1 s' : Shared) : Prop where
  heap : s'.heap = s1.heap
  os : s'.os = s1.os
  drawn : s'.drawn = s1.drawn
  toks : s'.toks = s1.toks
  bare : PyProof.Rows.AllBare s.gens → PyProof.Rows.AllBare s1.gens → PyProof.Rows.AllBare s'.gens
  sleep : ∀ (i : Nat) st, S i = true → s.gens[i]? = some st → isSusp st → s'.gens[i]? = some st
  off : ∀ i : Nat, S i = false → s'.gens[i]? = s1.gens[i]?
  new : ∀ i : Nat, s.gens.size ≤ i → s'.gens[i]? = s1.gens[i]?
  size : s'.gens.size = s1.gens.size
theorem woke_of {S : Nat → Bool} {s s1 s' : Shared} (e : s' = un (zOf S s) s1) (ok : Zok (zOf S s) s1) : Woke S s s1 s' := by
  subst e
  refine ⟨rfl, rfl, rfl, rfl, fun b0 b1 y hy => ?_, fun i st hs h1 h2 => ?_, fun i hs => ?_, fun i hi => ?_, un_size _ _⟩
  · obtain ⟨i, hi⟩ := Array.mem_iff_getElem?.mp hy
    cases q : zOf S s i with
    | none =>
      rw [un_get_none q] at hi
      exact b1 y (Array.mem_iff_getElem?.mpr ⟨i, hi⟩)
    | some st =>
      rw [un_get_some ok q] at hi
      cases hi
      unfold zOf at q
      split at q
      · rename_i e
        split at q
        · cases q
          exact b0 _ (Array.mem_iff_getElem?.mpr ⟨i, e⟩)
        · cases q
      · cases q
  · have q : zOf S s i = some st := by
      unfold zOf
      rw [h1]
      cases st <;> first | exact if_pos hs | exact h2.elim
    exact un_get_some ok q
  · have q : zOf S s i = none := by
      unfold zOf
      split
      · rw [if_neg (by rw [hs]; exact Bool.false_ne_true)]
      · rfl
    exact un_get_none q
  · have q : zOf S s i = none := by
      unfold zOf
      rw [Array.getElem?_eq_none_iff.mpr hi]
    exact un_get_none q
theorem wpAny_low {α : Type} {M : Model} {A : Around} {S : Nat → Bool} {s : Shared} {t : Sem α} {Q : α → Shared → Prop} {E : Value → Shared → Prop} (hS : ∀ i st, S i = false → s.gens[i]? = some st → isSusp st → isZ st) (h : wpAny M A t Q E (low S s)) :
    wpAny M A t (fun a s' => ∃ s1, Woke S s s1 s' ∧ Q a s1) (fun e s' => ∃ s1, Woke S s s1 s' ∧ s' = un (zOf S s) s1 ∧ Zok (zOf S s) s1 ∧ E e s1) s := by
  intro Γ p hΓ
  have := wp_un M (zOf S s) Γ t _ _ p (low S s) (low_ok S s hS) (h Γ p hΓ)
  rw [un_low] at this
  exact Sem.wp_mono M Γ t (fun a p' s' ⟨s1, e, ok, q⟩ => ⟨s1, woke_of e ok, q⟩) (fun e p' s' ⟨s1, e1, ok, q⟩ => ⟨s1, woke_of e1 ok, e1, ok, q⟩) p s this
theorem low_bare {S : Nat → Bool} {s : Shared} (h : PyProof.Rows.AllBare s.gens) : PyProof.Rows.AllBare (low S s).gens := fun y hy => by
  obtain ⟨i, hi⟩ := Array.mem_iff_getElem?.mp hy
  rw [low_get] at hi
  obtain ⟨x, e, rfl⟩ := Option.map_eq_some_iff.mp hi
  have := h x (Array.mem_iff_getElem?.mpr ⟨i, e⟩)
  cases S i
  · exact this
  · rw [if_pos rfl, bare_psn]; exact this
end Gz
/-! one turn of a generator: what is asked of its end -/
namespace Gz
open PySem PySem.Spec PyProof.Rows L2 GenW
open Sem (wp)

/-- from here the code runs to an end of which Φ holds -/
def Sf (M : Model) (A : Around) (Φ : End → Shared → Prop) (c : Code) (t : Sem PySem.Fin) (fs : List Frame) (s : Shared) : Prop :=
  ∀ Γ p, Γ.code = c → Γ.Woken A → ∃ e s', Runs M Γ p t fs s e s' ∧ Φ e s'
section
variable {M : Model} {A : Around} {Φ Ψ : End → Shared → Prop} {c : Code} {fs : List Frame} {s : Shared}
theorem sf_mono {t : Sem PySem.Fin} (k : ∀ e s', Φ e s' → Ψ e s') (h : Sf M A Φ c t fs s) : Sf M A Ψ c t fs s := fun Γ p hc hΓ => let ⟨e, s', r, q⟩ := h Γ p hc hΓ; ⟨e, s', r, k e s' q⟩
theorem sf_wrap {α : Type} {m : Sem α} {K : α → Sem PySem.Fin} {J : Value → Sem PySem.Fin} {gd lv} (h : wpAny M (A.over c fs) m (fun a s' => Sf M A Φ c (K a) fs s') (fun x s' => Sf M A Φ c (J x) fs s') s) :
    Sf M A Φ c (m.wrap K J gd lv) fs s := by
  rintro Γ p rfl hΓ
  exact runs_wrap_of_wp K J gd lv m (h (Γ.over fs) p (hΓ.over fs)) (fun a p' s' q => q Γ p' rfl hΓ) fun x p' s' q => q Γ p' rfl hΓ
theorem sf_bind {α : Type} {m : Sem α} {K : α → Sem PySem.Fin} (h : wpAny M (A.over c fs) m (fun a s' => Sf M A Φ c (K a) fs s') (fun x s' => Sf M A Φ c (.raise x) fs s') s) : Sf M A Φ c (m >>= K) fs s := by
  rw [Sem.bind_eq_wrap']; exact sf_wrap h
theorem sf_bindw {α β : Type} {m : Sem α} {f : α → Sem β} {K : β → Sem PySem.Fin} {J : Value → Sem PySem.Fin} {gd lv} (h : wpAny M (A.over c fs) m (fun a s' => Sf M A Φ c ((f a).wrap K J gd lv) fs s') (fun x s' => Sf M A Φ c (J x) fs s') s) : Sf M A Φ c ((m >>= f).wrap K J gd lv) fs s := by
  rw [Sem.bind_eq_wrap', Sem.wrap_wrap]; exact sf_wrap h
theorem sf_at {p' : Pos} {k : Unit → Sem PySem.Fin} (h : Sf M A Φ c (k ()) fs s) : Sf M A Φ c (.at p' k) fs s := sf_wrap (m := standAt p') (K := k) (J := .raise) (gd := id) (lv := id) (wpAny_standAt h)
theorem sf_point {l : List Value} {k : Unit → Sem PySem.Fin} (h : Sf M A Φ c (k ()) fs s) : Sf M A Φ c (.point l k) fs s := sf_wrap (m := point) (K := k) (J := .raise) (gd := id) (lv := fun _ => l) (wpAny_point h)
theorem sf_call {c' : Code} {h g l} {k : Result → Sem PySem.Fin} (hc : ∀ p, Sf M A Φ c' (M.den c') (.ret k h g l c p [] :: fs) s) : Sf M A Φ c (.call c' h g l k) fs s := by
  rintro Γ p rfl hΓ
  obtain ⟨e, s', hr, he⟩ := hc p (Γ.goto c') p rfl (hΓ.goto c')
  exact ⟨e, s', runs_call_seg hr, he⟩
theorem sf_leaf {k h g l c₁ p₁ kp} (r : Result) (hk : Sf M A Φ c₁ (k r) fs s) : Sf M A Φ c (leafOf r) (.ret k h g l c₁ p₁ kp :: fs) s := by
  rintro Γ p rfl hΓ
  obtain ⟨e, s', hr, he⟩ := hk (Γ.goto c₁) p₁ rfl (hΓ.goto c₁)
  exact ⟨e, s', Runs.pop r hr, he⟩
theorem sf_again {c' : Code} (hq : c'.quiet = true) (hc : Sf M A Φ c' (M.den c') fs s) : Sf M A Φ c (.pure (.again c')) fs s := by
  rintro Γ p rfl hΓ
  obtain ⟨e, s', hr, he⟩ := hc (Γ.goto c') p rfl (hΓ.goto c')
  exact ⟨e, s', Runs.head (c₁ := c') (fun _ _ x => .again hq x) hr, he⟩
theorem sf_end (r : Result) (h : Φ (.ret r) s) : Sf M A Φ c (leafOf r) [] s := by
  rintro Γ p rfl _
  exact ⟨.ret r, s, Runs.leaf r, h⟩
theorem sf_yield {v g l} {k : Resume → Sem PySem.Fin} (hfs : splitAtGen fs = none) (h : ∀ p, Φ (.susp v g l k c p fs) s) : Sf M A Φ c (.yield v g l k) fs s := by
  rintro Γ p rfl _
  exact ⟨_, s, Runs.yield' fs hfs, h p⟩
end
/-- a generator that sleeps, or has not begun, is woken -/
def Go (M : Model) (A : Around) (Φ : End → Shared → Prop) (gs : GenState) (s : Shared) : Prop := match gs with
  | .fresh c => Sf M A Φ c (M.den c) [] s
  | .suspended k _ c _ fs _ => Sf M A Φ c (k (.send .none)) fs s
  | _ => False
theorem Go.mono {M : Model} {A : Around} {Φ Ψ : End → Shared → Prop} {gs : GenState} {s : Shared} (k : ∀ e s', Φ e s' → Ψ e s') (h : Go M A Φ gs s) : Go M A Ψ gs s := by
  cases gs <;> first | exact sf_mono k h | exact h
theorem wpAny_wake {M : Model} {A : Around} {Φ : End → Shared → Prop} {E : Value → Shared → Prop} {s : Shared} {g : Nat} {gs : GenState} {l : List Value} {α : Type} {k : GenResult → Sem α} {Q : α → Shared → Prop} (hg : s.gens[g]? = some gs)
    (hgo : Go M A Φ gs (s.setGen g .running)) (hΦ : ∀ e s₁, Φ e s₁ → e.quiet = true ∧ wpAny M A (k e.result) Q E (s₁.setGen g e.genState)) : wpAny M A (.resume g (.send .none) l k) Q E s := by
  intro Γ p hΓ
  rw [Sem.wp_resume]
  cases gs with
  | fresh c =>
    obtain ⟨e, s₁, hr, he⟩ := hgo (Γ.wake c p) p rfl (hΓ.wake c p)
    obtain ⟨q1, q2⟩ := hΦ e s₁ he
    exact ⟨_, _, by unfold Wakes; rw [hg]; exact ⟨e, s₁, hr, q1, rfl, rfl⟩, q2 Γ p hΓ⟩
  | suspended k₀ l₀ c₀ p₀ fs₀ cl =>
    obtain ⟨e, s₁, hr, he⟩ := hgo (Γ.wake c₀ p) p₀ rfl (hΓ.wake c₀ p)
    obtain ⟨q1, q2⟩ := hΦ e s₁ he
    exact ⟨_, _, by unfold Wakes; rw [hg]; exact ⟨e, s₁, hr, q1, rfl, rfl⟩, q2 Γ p hΓ⟩
  | running => exact hgo.elim
  | finished => exact hgo.elim
/-- an end that is no exception: an item, or nothing more -/
def Calm : End → Prop
  | .ret (.ok (.ret .none)) => True
  | .ret (.ok .next) => True
  | .susp _ g _ _ _ _ fs => (g || fs.any Frame.guarded) = false
  | _ => False
theorem Calm.quiet {e : End} (h : Calm e) : e.quiet = true := by
  cases e with
  | ret r => rfl
  | susp v g l k c p fs => simp only [End.quiet, show (g || fs.any Frame.guarded) = false from h, Bool.not_false]
section
variable {P : Program} {w : World} {A : Around} {E : Value → Shared → Prop} {s : Shared}
/-- the special method's call: an item comes, or StopIteration flies -/
theorem special_gen {a : Addr} {g : Nat} {gs : GenState} {Φ : End → Shared → Prop} {Q : Option Value → Shared → Prop} (hh : A.handled = none) (hl : s.heap.NoLimit) (hroom : A.depth < recursionLimit) (hg : s.heap.IsGen a g) (hgs : s.gens[g]? = some gs)
    (hgo : Go (model P w) A.in1 Φ gs (s.setGen g .running)) (hc : ∀ e s₁, Φ e s₁ → Calm e) (hY : ∀ v gd l k c p fs s₁, Φ (.susp v gd l k c p fs) s₁ → Q (some v) (s₁.setGen g (End.susp v gd l k c p fs).genState))
    (hP : ∀ r s₁, Φ (.ret r) s₁ → ∀ e h', StopX e h' → (∀ b o, s₁.heap.get? b = some o → h'.get? b = some o) → E e { s₁.setGen g .finished with heap := h' }) : wpAny (model P w) A (callSpecial? (.ref a) "__next__") Q E s := by
  refine wpAny_callSpecial?_slot (name := Str.ofString "__next__") hg.typeIs slot_gen_next (wpAny_call_entry slot_gen_next hg.typeIs entry_gen_next ?_ (args_gen_next _))
  show wpAny _ A.in1 (Builtin.Generator.genWake (.ref a) (.send .none)) _ _ s
  unfold Builtin.Generator.genWake
  refine wpAny_bind (wpAny_holding (wpAny_genNumber hg (wpAny_bind (wpAny_genState hgs ?_))))
  cases gs with
  | running => exact hgo.elim
  | finished => exact hgo.elim
  | _ =>
    refine wpAny_bind (wpAny_roomToWake hl hroom ?_)
    show wpAny _ A.in1 (.resume g (.send .none) [] _) _ _ s
    refine wpAny_wake hgs hgo fun e s₁ he => ?_
    have ce := hc e s₁ he
    refine ⟨ce.quiet, ?_⟩
    cases e with
    | susp v gd l k c p fs => exact wpAny_pure ⟨v, rfl, hY v gd l k c p fs s₁ he⟩
    | ret r =>
      have hres : End.result (.ret r) = .returned .none := by
        rcases r with x | (_ | _ | _ | v)
        · exact ce.elim
        · rfl
        · exact ce.elim
        · exact ce.elim
        · cases v <;> first | rfl | exact ce.elim
      first | rw [hres] | simp only [hres]
      show wpAny _ A.in1 (newExc (.type "StopIteration") [] >>= fun e => _) _ _ _
      refine wpAny_bind ?_
      simp only [newExc, newTuple]
      refine wpAny_bind (wpAny_newObj_type ?_ (by size_fits))
      refine wpAny_bind (m := firstArgMember _ _) (wpAny_of_eq (a := Value.none) (by first | rfl | (simp only [firstArgMember]; rfl)) ?_)
      refine wpAny_newObj_type ?_ (by size_fits)
      simp only [raiseNew]
      refine wpAny_bind (wpAny_bind (wpAny_handled ?_))
      first | rw [show A.in1.handled = none from hh] | rw [hh]
      refine wpAny_throw ?_
      refine hP r s₁ he _ _ ⟨_, _, _, rfl, Heap.get?_push_size _ rfl, rfl, rfl, ?_⟩ fun b o hb => Heap.get?_push_of_some _ (Heap.get?_push_of_some _ hb)
      rfl
/-- the next item, or none -/
theorem next_gen {a : Addr} {g : Nat} {gs : GenState} {Φ : End → Shared → Prop} {Q : Option Value → Shared → Prop} (hh : A.handled = none) (hl : s.heap.NoLimit) (hroom : A.depth < recursionLimit) (hg : s.heap.IsGen a g) (hgs : s.gens[g]? = some gs)
    (hgo : Go (model P w) A.in1 Φ gs (s.setGen g .running)) (hc : ∀ e s₁, Φ e s₁ → Calm e) (hY : ∀ v gd l k c p fs s₁, Φ (.susp v gd l k c p fs) s₁ → Q (some v) (s₁.setGen g (End.susp v gd l k c p fs).genState))
    (hP : ∀ r s₁, Φ (.ret r) s₁ → ∀ h', (∀ b o, s₁.heap.get? b = some o → h'.get? b = some o) → Q none { s₁.setGen g .finished with heap := h' }) : wpAny (model P w) A (pyNext (.ref a)) Q E s := by
  unfold pyNext
  refine wpAny_bind (wpAny_attempt (special_gen hh hl hroom hg hgs hgo hc (fun v gd l k c p fs s₁ he => ?_) fun r s₁ he e h' hx hk => ?_))
  · exact wpAny_pure (hY v gd l k c p fs s₁ he)
  · obtain ⟨b, o, vs, rfl, ho, hcl, _, _⟩ := hx
    refine wpAny_bind (wpAny_isInstance (T := "StopIteration") (b := true) ⟨o, ho, hcl⟩ isSubtype_stop ?_)
    exact wpAny_pure (hP r s₁ he h' hk)
end
end Gz
/-! a generator between its turns -/
namespace Gz
open PySem PySem.Spec PyProof.Rows L2 GenW Dz

/-- what stays in an abstract heap: what may change but is not told, and what never changes -/
def Kd (o : HO) : Prop := Mut (some o) ∨ (∃ xs, o = .tup xs) ∨ ∃ p u, o = .frz p u
def Off (M : Sg) (b : Addr) : Prop := M.M b = none ∧ b ∉ M.pv
theorem kd_stp {H H' : Hp} {M M' : Sg} (t : Stp H M H' M') {b : Addr} {o : HO} (h : H b = some o) (k : Kd o) (n : Mut (some o) → Off M b) : H' b = some o ∧ (Mut (some o) → Off M' b) := by
  by_cases mu : Mut (some o)
  · obtain ⟨x, y, z⟩ := t.fr b o h mu (n mu).1 (n mu).2
    exact ⟨x, fun _ => ⟨y, z⟩⟩
  · refine ⟨?_, fun q => absurd q mu⟩
    rcases k with k | ⟨xs, rfl⟩ | ⟨p, u, rfl⟩
    · exact absurd k mu
    · exact t.ext.tups b xs h
    · exact t.ext.frzs b p u h
/-- the constants of a generator -/
structure Gk where
  P : Program
  w : World
  K : PySem.W.Frag
  mg : Str → Option Value
  base : Heap
  A : Around
  outer : List Env
  n : Nat
  a : Addr
  go : Obj
  g : Nat
  os : OsState
/-- what a sleeper needs: its objects, other sleepers, what it knows of the heap -/
structure Dl where
  own : List (Addr × Obj)
  fam : List (Nat × GenState)
  hp : Hp
structure Hd (G : Gk) (δ : Dl) (s : Shared) (H : Hp) : Prop where
  own : ∀ p ∈ δ.own, s.heap.get? p.1 = some p.2 ∧ H p.1 = none ∧ G.n ≤ p.1 ∧ ∀ v, p.2.data ≠ .cell v
  self : (G.a, G.go) ∈ δ.own
  fam : ∀ p ∈ δ.fam, s.gens[p.1]? = some p.2 ∧ isZ p.2 ∧ p.1 ≠ G.g
  hp : ∀ b o, δ.hp b = some o → H b = some o ∧ Kd o
/-- it may be woken -/
structure Wk (G : Gk) (δ : Dl) (s : Shared) (H : Hp) : Prop where
  hd : Hd G δ s H
  env : Env0 G.P G.w G.K G.mg G.base G.A G.outer s H
  os : s.os = G.os
  gl : G.g < s.gens.size
def upFrom (n : Nat) (s : Shared) : List Addr := (List.range s.heap.objs.size).filter (n ≤ ·)
theorem mem_upFrom {n : Nat} {s : Shared} {b : Addr} : b ∈ upFrom n s ↔ b < s.heap.objs.size ∧ n ≤ b := by simp [upFrom]
/-- what it has done in a turn -/
structure Bk (G : Gk) (δ : Dl) (s0 : Shared) (H0 : Hp) (s : Shared) (H : Hp) (δ' : Dl) : Prop where
  os : s.os = s0.os
  bare : AllBare s.gens
  un : Un (frs G.outer) (upFrom G.n s0) H0 H s0.heap s.heap
  hok : HOk G.P G.w H s.heap
  fr : ∀ b o, H0 b = some o → Mut (some o) → δ.hp b = none → H b = some o ∧ δ'.hp b = none
  new : ∀ p ∈ δ'.fam, (∃ q ∈ δ.fam, q.1 = p.1) ∨ s0.gens.size ≤ p.1
def Dl.nil : Dl := ⟨[], [], fun _ => none⟩
theorem Bk.ext {G : Gk} {δ δ' : Dl} {s0 s : Shared} {H0 H : Hp} (b : Bk G δ s0 H0 s H δ') : Ext H0 H := ⟨b.un.tups, b.un.frzs⟩
def Rdy (G : Gk) : List D → Dl → GenState → Prop
  | [], δ, gs => ∀ s H, Wk G δ s H → Go (model G.P G.w) G.A (fun e s1 => Calm e ∧ ∃ r, e = .ret r ∧ ∃ H1, Bk G δ s H s1 H1 Dl.nil) gs (s.setGen G.g .running)
  | x :: out, δ, gs => ∀ s H, Wk G δ s H → Go (model G.P G.w) G.A (fun e s1 => Calm e ∧ isZ e.genState ∧ ∃ v u H1 δ', e.result = .yielded v ∧ RelV u v ∧ Rep G.K H1 x u ∧ Bk G δ s H s1 H1 δ' ∧ Hd G δ' s1 H1 ∧ Rdy G out δ' e.genState) gs (s.setGen G.g .running)
/-- the end of a turn -/
def EndF (G : Gk) (out : List D) (δ : Dl) (s : Shared) (H : Hp) (e : End) (s1 : Shared) : Prop := match out with
  | [] => Calm e ∧ ∃ r, e = .ret r ∧ ∃ H1, Bk G δ s H s1 H1 Dl.nil
  | x :: out => Calm e ∧ isZ e.genState ∧ ∃ v u H1 δ', e.result = .yielded v ∧ RelV u v ∧ Rep G.K H1 x u ∧ Bk G δ s H s1 H1 δ' ∧ Hd G δ' s1 H1 ∧ Rdy G out δ' e.genState
theorem rdy_iff {G : Gk} {out : List D} {δ : Dl} {gs : GenState} : Rdy G out δ gs ↔ ∀ s H, Wk G δ s H → Go (model G.P G.w) G.A (EndF G out δ s H) gs (s.setGen G.g .running) := by
  cases out <;> exact Iff.rfl
/-- a generator that sleeps, or has not begun, as its consumer holds it -/
structure Sl (G : Gk) (out : List D) (δ : Dl) (gs : GenState) (s : Shared) (H : Hp) : Prop where
  hd : Hd G δ s H
  zz : isSusp gs → isZ gs
  rdy : Rdy G out δ gs
  at_ : s.gens[G.g]? = some gs
/-- the consumer's side -/
structure Con (X : Cx) (pins : List (Addr × Obj)) (G : Gk) : Prop where
  P : X.prog = G.P
  w : X.w = G.w
  K : X.K = G.K
  mg : X.mg = G.mg
  base : X.base = G.base
  A : G.A.frames = X.A.frames
  stk : X.stack = G.outer
  os : X.s_0.os = G.os
  s0 : X.s_0.heap.objs.size ≤ G.n
  loc : X.env.locals < G.n
  cell : ∀ x c, X.env.cells.lookup x = some c → c < G.n
  pin : ∀ p ∈ X.pn ++ pins, p.1 < G.n
  gen : ∀ h : Heap, h.get? G.a = some G.go → h.IsGen G.a G.g
theorem setGen_same {s : Shared} {g : Nat} {x y : GenState} : (s.setGen g x).setGen g y = s.setGen g y := by
  unfold Shared.setGen
  simp
theorem inv_gens {X : Cx} {pins : List (Addr × Obj)} {σ : L2.St} {H : Hp} {s s' : Shared} (I : Inv X pins σ H s) (hh : s'.heap = s.heap) (ho : s'.os = s.os) (hb : AllBare s'.gens) : Inv X pins σ H s' :=
  ⟨I.ok, ho.trans I.os, hb, by rw [hh]; exact I.base, by rw [hh]; exact I.loc, by rw [hh]; exact I.cell, I.free, I.freeC, by rw [hh]; exact I.pin, by rw [hh]; exact I.hok, I.len⟩
theorem Sl.wk {X : Cx} {pins : List (Addr × Obj)} {σ : L2.St} {G : Gk} {out : List D} {δ : Dl} {gs : GenState} {s : Shared} {H : Hp} (c : Con X pins G) (I : Inv X pins σ H s) (z : Sl G out δ gs s H) : Wk G δ s H := by
  refine ⟨z.hd, ?_, I.os.trans c.os, (Array.getElem?_eq_some_iff.mp z.at_).1⟩
  have e := I.env0
  rw [c.P, c.w, c.K, c.mg, c.base, c.stk] at e
  exact ⟨c.A.trans e.frames, e.mod, e.bs, e.bsz, e.funs, e.frf, e.hok, e.bare⟩
/-- behind a turn: the consumer's state stands -/
theorem Con.back {X : Cx} {pins : List (Addr × Obj)} {σ : L2.St} {G : Gk} {δ : Dl} {s s1 : Shared} {H H1 : Hp} {δ' : Dl} (c : Con X pins G) (I : Inv X pins σ H s) (b : Bk G δ s H s1 H1 δ') : Inv X pins σ H1 s1 := by
  refine I.call' (ch := upFrom G.n s) b.os (by rw [c.stk]; exact b.un) (by rw [c.P, c.w]; exact b.hok) b.bare fun x hx => ?_
  have hx := (mem_upFrom.mp hx).2
  refine ⟨.inr (Nat.le_trans c.s0 hx), fun e => ?_, fun y d e q => ?_, fun p hp q => ?_⟩
  · rw [e] at hx; exact absurd (Nat.lt_of_lt_of_le c.loc hx) (Nat.lt_irrefl _)
  · rw [← q] at hx; exact absurd (Nat.lt_of_lt_of_le (c.cell y d e) hx) (Nat.lt_irrefl _)
  · rw [← q] at hx; exact absurd (Nat.lt_of_lt_of_le (c.pin p hp) hx) (Nat.lt_irrefl _)
/-- a turn, by next -/
theorem turn {X : Cx} {pins : List (Addr × Obj)} {σ : L2.St} {G : Gk} {out : List D} {δ : Dl} {gs : GenState} {s : Shared} {H : Hp} {E : Value → Shared → Prop} {Q : Option Value → Shared → Prop} (c : Con X pins G) {A₀ : Around} (hA : G.A = A₀.in1) (hh : A₀.handled = none) (hroom : A₀.depth < recursionLimit)
    (I : Inv X pins σ H s) (z : Sl G out δ gs s H)
    (h0 : out = [] → ∀ s1 H1 δ', Inv X pins σ H1 s1 → Bk G δ s H s1 H1 δ' → Q none s1)
    (h1 : ∀ x rest, out = x :: rest → ∀ v u s1 H1 δ' gs', RelV u v → Rep G.K H1 x u → Inv X pins σ H1 s1 → Bk G δ s H s1 H1 δ' → Sl G rest δ' gs' s1 H1 → isZ gs' → Q (some v) s1) :
    wpAny (model X.prog X.w) A₀ (pyNext (.ref G.a)) Q E s := by
  have wk := z.wk c I
  have go := rdy_iff.mp z.rdy s H wk
  have hg := c.gen s.heap (z.hd.own _ z.hd.self).1
  have hgl : G.g < s.gens.size := (Array.getElem?_eq_some_iff.mp z.at_).1
  rw [hA, ← c.P, ← c.w] at go
  refine wpAny_gsz (n := G.g + 1) hgl (next_gen hh I.nolimit hroom hg z.at_ go (fun e s₁ he => ?_) (fun v gd l k cc p fs s₁ he hsz => ?_) fun r s₁ he h' hk _ => ?_)
  · unfold EndF at he
    split at he <;> exact he.1
  · unfold EndF at he
    split at he
    · obtain ⟨_, r, e, _⟩ := he
      cases e
    · rename_i x rest
      obtain ⟨hc, hz, v', u, H1, δ', e, ru, rx, bk, hd, rd⟩ := he
      cases e
      have I1 := c.back I bk
      have hb : AllBare (s₁.setGen G.g (End.susp v gd l k cc p fs).genState).gens := L2.allBare_setGen bk.bare (End.bare_of_quiet hc.quiet)
      have hsz1 : G.g < s₁.gens.size := by
        have := setGen_size s₁ G.g (End.susp v gd l k cc p fs).genState
        omega
      refine h1 x rest rfl v u _ H1 δ' _ ru rx (inv_gens I1 rfl rfl hb) ⟨bk.os, hb, bk.un, bk.hok, bk.fr, bk.new⟩ ⟨⟨hd.own, hd.self, fun p hp => ?_, hd.hp⟩, fun _ => hz, rd, L2.setGen_at hsz1⟩ hz
      obtain ⟨x1, x2, x3⟩ := hd.fam p hp
      refine ⟨?_, x2, x3⟩
      show (s₁.gens.setIfInBounds G.g _)[p.1]? = _
      rw [Array.getElem?_setIfInBounds_ne (Ne.symm x3)]
      exact x1
  · unfold EndF at he
    split at he
    · obtain ⟨hc, r', e, H1, bk⟩ := he
      have I1 := c.back I bk
      have hb : AllBare (s₁.setGen G.g .finished).gens := L2.allBare_setGen bk.bare rfl
      have I2 : Inv X pins σ H1 { s₁ with heap := h' } := I1.kept (t' := s₁.toks) hk
      refine h0 rfl _ H1 Dl.nil (inv_gens I2 (s' := { s₁.setGen G.g .finished with heap := h' }) rfl rfl hb) ⟨bk.os, hb, bk.un.trans ?_, bk.hok.kept hk, bk.fr, bk.new⟩
      exact Un.kept hk
    · exact he.2.1.elim
end Gz
/-! a generator's body -/
namespace Gz
open PySem PySem.Spec PyProof.Rows L2 GenW Dz

/-! ### the context, laid anew at each turn -/
def trunc (h : Heap) (n : Nat) : Heap := ⟨h.objs.extract 0 n, h.life⟩
theorem trunc_get {h : Heap} {n b : Nat} (hb : b < n) : (trunc h n).get? b = h.get? b := by
  unfold trunc Heap.get?
  rw [show (h.objs.extract 0 n)[b]? = h.objs[b]? by rw [Array.getElem?_extract]; simp; omega]
theorem trunc_some {h : Heap} {n b : Nat} {o : Obj} (e : (trunc h n).get? b = some o) : b < n ∧ h.get? b = some o := by
  have hb : b < n := by
    have := Heap.lt_size e
    have h2 : (h.objs.extract 0 n).size ≤ n := by simp; omega
    exact Nat.lt_of_lt_of_le this h2
  exact ⟨hb, by rw [← trunc_get hb]; exact e⟩
theorem trunc_size (h : Heap) (n : Nat) : (trunc h n).objs.size ≤ n := by
  show (h.objs.extract 0 n).size ≤ n
  simp; omega
def virt (s : Shared) (n : Nat) : Shared := { s with heap := trunc s.heap n }
structure Gb where
  G : Gk
  N : List Str
  qual : Str
  scope : Scope
  f : Addr
  cdv : Value
abbrev Gb.env (B : Gb) : Env := envOfC B.qual B.scope B.G.n B.f B.cdv
def Gb.X (B : Gb) (s : Shared) (H : Hp) : Cx where
  prog := B.G.P
  w := B.G.w
  K := B.G.K
  mg := B.G.mg
  base := B.G.base
  A := B.G.A.deeper (envOfC B.qual B.scope B.G.n B.f B.cdv)
  N := B.N
  s_0 := virt s B.G.n
  H_0 := H
  env := envOfC B.qual B.scope B.G.n B.f B.cdv
  outer := B.G.outer
  stack := envOfC B.qual B.scope B.G.n B.f B.cdv :: B.G.outer
  ex := []
  calm := true
  fn := fun _ => true
  pn := []
  xe := fun _ _ => False
structure GbOk (B : Gb) : Prop where
  kind : B.scope.kind = .function
  co : B.scope.isCoroutine = false
  cells : ∀ L, cellsFrom L B.scope.names [] = []
  names : ∀ y ∈ B.scope.names, y.2 ≠ .cell ∧ y.2 ≠ .free
  hd : B.G.A.handled = none
  frn : ∀ b ∈ frs B.G.outer, b < B.G.n
  bsn : B.G.base.objs.size ≤ B.G.n
  go : ∀ v, B.G.go.data ≠ .cell v
  dp : B.G.A.depth + 1 < recursionLimit
  inter : interactive B.env = false
theorem GbOk.nocell {B : Gb} (ok : GbOk B) : ∀ (x : Str) c, B.env.cells.lookup x = some c → False := fun x c e => by
  have : B.env.cells = [] := ok.cells _
  rw [this] at e
  cases e
theorem frames_low {h base : Heap} {n : Nat} : ∀ {l : List Env}, h.FunFrames base l → (∀ b ∈ frs l, b < n) → (trunc h n).FunFrames base l
  | [], _, _ => trivial
  | env :: l, ⟨hk, ⟨L, o, hf, hn, ho, hd⟩, hr⟩, hb => by
    have e : frs (env :: l) = L :: frs l := by unfold frs; rw [List.filterMap_cons, hf]
    rw [e] at hb
    exact ⟨hk, ⟨L, o, hf, hn, (trunc_get (hb L List.mem_cons_self)).trans ho, hd⟩, frames_low hr fun b q => hb b (List.mem_cons_of_mem _ q)⟩
theorem inv_wake {B : Gb} (ok : GbOk B) {s : Shared} {H : Hp} {σ : L2.St} {ip : List (Addr × Obj)} (e0 : Env0 B.G.P B.G.w B.G.K B.G.mg B.G.base B.G.A B.G.outer s H) (hsz : B.G.n ≤ s.heap.objs.size)
    (loc : ∃ m, s.heap.Ns B.G.n m ∧ ∀ (i : Nat) (x : Str) (v : V), B.N[i]? = some x → σ[i]? = some (some v) → Vis B.scope x → ∃ u, RelV v u ∧ Look B.env s.heap m x u) (free : H B.G.n = none)
    (pin : ∀ p ∈ ip, s.heap.get? p.1 = some p.2 ∧ H p.1 = none ∧ p.1 ≠ B.G.n ∧ p.1 ∉ frs B.G.outer ∧ ∀ v, p.2.data ≠ .cell v) (len : σ.length = B.N.length) : Inv (B.X s H) ip σ H s := by
  have nex : ∀ b, b ∉ (B.X s H).ex := fun b q => nomatch q
  refine ⟨⟨e0.mod, ok.kind, rfl, rfl, trunc_size _ _, fun x y c q _ => (ok.nocell x c q).elim, fun x q => ?_, fun x c _ q => (ok.nocell x c q).elim, fun _ => ok.hd, Around.frames_deeper e0.frames, .inr ⟨rfl, rfl⟩, fun b q => (nex b q).elim, fun b o q => ?_, ?_, fun b _ _ => nex b, fun b q => (nex b q).elim, frames_low e0.funs ok.frn, e0.frf⟩,
    rfl, e0.bare, ⟨fun b o q n hb hx => (trunc_some q).2, fun b o q n hb hx => ⟨o.slots, (trunc_some q).2⟩, fun b o q n hx => n, fun b o q hx => ⟨o, (trunc_some q).2⟩, fun _ _ q => q, fun _ _ _ q => q, fun b ps q => ⟨#[], by rw [show H b = some (.tbl ps) from q]; simp⟩⟩, loc, fun x c q => (ok.nocell x c q).elim, free, fun x c q => (ok.nocell x c q).elim, pin, e0.hok, len⟩
  · rcases q with q | q
    · exact absurd rfl (ok.names _ (PySem.mem_of_lookup (show B.scope.names.lookup x = some .cell from q))).1
    · exact absurd rfl (ok.names _ (PySem.mem_of_lookup (show B.scope.names.lookup x = some .free from q))).2
  · obtain ⟨h1, h2⟩ := e0.bs b o q
    exact ⟨(trunc_get (Nat.lt_of_lt_of_le (Heap.lt_size q) ok.bsn)).trans h1, h2⟩
  · show B.G.base.objs.size ≤ (s.heap.objs.extract 0 B.G.n).size
    have := ok.bsn
    simp only [Array.size_extract]
    omega

/-! ### a turn under way -/
structure Tau where
  s : Shared
  H : Hp
  δ : Dl
structure Stt (B : Gb) (τ : Tau) (ip : List (Addr × Obj)) (sl : List (Nat × GenState)) (pc : Hp) (σ : L2.St) (H : Hp) (M : Sg) (env : Ev) (s : Shared) : Prop where
  inv : Inv (B.X τ.s τ.H) ip σ H s
  ev : REnv B.G.K H env σ
  mr : MRep B.G.K H M
  gs : ∀ p ∈ sl, s.gens[p.1]? = some p.2 ∧ isZ p.2 ∧ p.1 ≠ B.G.g
  fg : ∀ b o, τ.H b = some o → Mut (some o) → τ.δ.hp b = none → H b = some o ∧ Off M b ∧ pc b = none
  pc : ∀ b o, pc b = some o → H b = some o ∧ Kd o ∧ (Mut (some o) → Off M b)
  ipn : ∀ p ∈ ip, B.G.n ≤ p.1
  self : (B.G.a, B.G.go) ∈ ip
  os : τ.s.os = B.G.os
  szn : B.G.n ≤ τ.s.heap.objs.size
  gl : B.G.g < s.gens.size
  gz : τ.s.gens.size ≤ s.gens.size
  slf : ∀ p ∈ sl, (∃ q ∈ τ.δ.fam, q.1 = p.1) ∨ τ.s.gens.size ≤ p.1
theorem Stt.step {B : Gb} {τ : Tau} {ip : List (Addr × Obj)} {sl : List (Nat × GenState)} {pc : Hp} {σ σ' : L2.St} {H H' : Hp} {M M' : Sg} {env env' : Ev} {s s' : Shared} (z : Stt B τ ip sl pc σ H M env s) (I : Inv (B.X τ.s τ.H) ip σ' H' s') (r : REnv B.G.K H' env' σ') (m : MRep B.G.K H' M') (t : Stp H M H' M')
    (g : ∀ p ∈ sl, s'.gens[p.1]? = some p.2) (hz : s.gens.size ≤ s'.gens.size) : Stt B τ ip sl pc σ' H' M' env' s' where
  inv := I
  ev := r
  mr := m
  gs := fun p hp => ⟨g p hp, (z.gs p hp).2⟩
  pc := fun b o h => by
    obtain ⟨h1, h2, h3⟩ := z.pc b o h
    obtain ⟨q1, q2⟩ := kd_stp t h1 h2 h3
    exact ⟨q1, h2, q2⟩
  fg := fun b o h mu n => by
    obtain ⟨h1, h2, h3⟩ := z.fg b o h mu n
    obtain ⟨q1, q2, q3⟩ := t.fr b o h1 mu h2.1 h2.2
    exact ⟨q1, ⟨q2, q3⟩, h3⟩
  ipn := z.ipn
  self := z.self
  os := z.os
  szn := z.szn
  gl := Nat.lt_of_lt_of_le z.gl hz
  gz := Nat.le_trans z.gz hz
  slf := z.slf

/-! ### the judgement -/
structure GE where
  nx : List D → Ev → Sg → Prop
  rt : List D → D → Sg → Prop
  bk : List D → Ev → Sg → Prop := fun _ _ _ => False
  ct : List D → Ev → Sg → Prop := fun _ _ _ => False
abbrev DGn := GE → List D → Ev → Sg → Prop
structure At (B : Gb) (c : Code) (fs : List Frame) (gd : Bool → Bool) : Prop where
  over : B.G.A.over c fs = B.G.A.deeper B.env
  split : splitAtGen fs = none
  guard : fs.any Frame.guarded = false
  gd : gd false = false
def Fl (B : Gb) (E : GE) (out : List D) (H : Hp) (M : Sg) (env : Ev) : Flow → Prop
  | .next => E.nx out env M
  | .brk => E.bk out env M
  | .cont => E.ct out env M
  | .ret u => ∃ v w, RelV v u ∧ Rep B.G.K H w v ∧ E.rt out w M
def Kt (B : Gb) (ip : List (Addr × Obj)) (sl : List (Nat × GenState)) (pc : Hp) (c : Code) (fs : List Frame) (Kc : Flow → Sem PySem.Fin) (E : GE) : Prop :=
  ∀ (τ : Tau) (out : List D) (s : Shared) (σ : L2.St) (H : Hp) (M : Sg) (env : Ev) (f : Flow), Stt B τ ip sl pc σ H M env s → Fl B E out H M env f → Sf (model B.G.P B.G.w) B.G.A (EndF B.G out τ.δ τ.s τ.H) c (Kc f) fs s
structure GS (B : Gb) (st : Stmt) (t : DGn) : Prop where
  run : ∀ (τ : Tau) (out : List D) (c : Code) (fs : List Frame) (Kc : Flow → Sem PySem.Fin) (J : Value → Sem PySem.Fin) (gd : Bool → Bool) (lv : List Value → List Value) (ip : List (Addr × Obj)) (sl : List (Nat × GenState)) (pc : Hp) (s : Shared) (σ : L2.St) (H : Hp) (M : Sg) (env : Ev) (E : GE),
    At B c fs gd → Kt B ip sl pc c fs Kc E → Stt B τ ip sl pc σ H M env s → t E out env M → Sf (model B.G.P B.G.w) B.G.A (EndF B.G out τ.δ τ.s τ.H) c ((exec st B.env).wrap Kc J gd lv) fs s
structure GSs (B : Gb) (st : List Stmt) (t : DGn) : Prop where
  run : ∀ (τ : Tau) (out : List D) (c : Code) (fs : List Frame) (Kc : Flow → Sem PySem.Fin) (J : Value → Sem PySem.Fin) (gd : Bool → Bool) (lv : List Value → List Value) (ip : List (Addr × Obj)) (sl : List (Nat × GenState)) (pc : Hp) (s : Shared) (σ : L2.St) (H : Hp) (M : Sg) (env : Ev) (E : GE),
    At B c fs gd → Kt B ip sl pc c fs Kc E → Stt B τ ip sl pc σ H M env s → t E out env M → Sf (model B.G.P B.G.w) B.G.A (EndF B.G out τ.δ τ.s τ.H) c ((execs st B.env).wrap Kc J gd lv) fs s
/-- code that hands out nothing -/
theorem wp_calm {B : Gb} {τ : Tau} {ip : List (Addr × Obj)} {sl : List (Nat × GenState)} {pc : Hp} {σ : L2.St} {H : Hp} {M : Sg} {env : Ev} {s : Shared} {α : Type} {m : Sem α} {Q R : α → Shared → Prop} (z : Stt B τ ip sl pc σ H M env s)
    (h : ∀ s1, Inv (B.X τ.s τ.H) ip σ H s1 → s1.gens.size = s.gens.size → wpAny (model B.G.P B.G.w) (B.G.A.deeper B.env) m Q (fun _ _ => False) s1)
    (hq : ∀ a s1 s', Q a s1 → (∀ σ' H', Inv (B.X τ.s τ.H) ip σ' H' s1 → Inv (B.X τ.s τ.H) ip σ' H' s') → (∀ p ∈ sl, s'.gens[p.1]? = some p.2) → s.gens.size ≤ s'.gens.size → Woke (fun _ => true) s s1 s' → R a s') : wpAny (model B.G.P B.G.w) (B.G.A.deeper B.env) m R (fun _ _ => False) s := by
  refine wpAny_gsz (n := s.gens.size) (Nat.le_refl _) (wpAny_mono (wpAny_low (S := fun _ => true) (fun _ _ q => nomatch q) (h (low (fun _ => true) s) (inv_gens z.inv rfl rfl (low_bare z.inv.bare)) (by simp [low]))) (fun a s' ⟨s1, wk, q⟩ hz => ?_) fun e s' ⟨s1, wk, _, _, q⟩ _ => q)
  refine hq a s1 s' q (fun σ' H' I => inv_gens I wk.heap wk.os (wk.bare z.inv.bare I.bare)) (fun p hp => ?_) hz wk
  obtain ⟨g1, g2, _⟩ := z.gs p hp
  exact wk.sleep _ _ rfl g1 g2.susp
section
variable {B : Gb} {st : Stmt} {rest : List Stmt}
def GE.at (E : GE) (out : List D) : DEnds := { nx := E.nx out, rt := E.rt out, bk := E.bk out, ct := E.ct out }
def gPlain (t : DS) : DGn := fun E out env M => t (E.at out) env M
/-- what is kept of the deep state behind plain code -/
def LE (B : Gb) (E : GE) (out : List D) (H : Hp) (M : Sg) : Ends where
  nx := fun σ' H' => ∃ env' M', REnv B.G.K H' env' σ' ∧ MRep B.G.K H' M' ∧ Stp H M H' M' ∧ E.nx out env' M'
  bk := fun σ' H' => ∃ env' M', REnv B.G.K H' env' σ' ∧ MRep B.G.K H' M' ∧ Stp H M H' M' ∧ E.bk out env' M'
  ct := fun σ' H' => ∃ env' M', REnv B.G.K H' env' σ' ∧ MRep B.G.K H' M' ∧ Stp H M H' M' ∧ E.ct out env' M'
  rt := fun v H' => ∃ w M', Rep B.G.K H' w v ∧ MRep B.G.K H' M' ∧ Stp H M H' M' ∧ E.rt out w M'
theorem le_post {E : GE} {out : List D} {H : Hp} {M : Sg} : PostD B.G.K H M (E.at out) (LE B E out H M) :=
  ⟨fun env s σ H' q t m r => ⟨env, s, r, m, t, q⟩, fun w s v H' q t m r => ⟨w, s, r, m, t, q⟩, fun env s σ H' q t m r => ⟨env, s, r, m, t, q⟩, fun env s σ H' q t m r => ⟨env, s, r, m, t, q⟩⟩
theorem plain_end {τ : Tau} {ip : List (Addr × Obj)} {sl : List (Nat × GenState)} {pc : Hp} {σ : L2.St} {H : Hp} {M : Sg} {env : Ev} {s s1 s' : Shared} {E : GE} {out : List D} {c : Code} {fs : List Frame} {Kc : Flow → Sem PySem.Fin} {f : Flow} (z : Stt B τ ip sl pc σ H M env s) (k : Kt B ip sl pc c fs Kc E)
    (q : SP (B.X τ.s τ.H) ip (LE B E out H M) f s1) (hi : ∀ σ' H', Inv (B.X τ.s τ.H) ip σ' H' s1 → Inv (B.X τ.s τ.H) ip σ' H' s') (hg : ∀ p ∈ sl, s'.gens[p.1]? = some p.2) (hz : s.gens.size ≤ s'.gens.size) : Sf (model B.G.P B.G.w) B.G.A (EndF B.G out τ.δ τ.s τ.H) c (Kc f) fs s' := by
  cases f with
  | next => obtain ⟨σ', H', I, env', M', r, m, t, e⟩ := q; exact k τ out s' σ' H' M' env' .next (z.step (hi _ _ I) r m t hg hz) e
  | brk => obtain ⟨σ', H', I, env', M', r, m, t, e⟩ := q; exact k τ out s' σ' H' M' env' .brk (z.step (hi _ _ I) r m t hg hz) e
  | cont => obtain ⟨σ', H', I, env', M', r, m, t, e⟩ := q; exact k τ out s' σ' H' M' env' .cont (z.step (hi _ _ I) r m t hg hz) e
  | ret u =>
    obtain ⟨v, σ', H', I, rv, w, M', rw', m, t, e⟩ := q
    have hl : (σ'.map fun _ => (none : Option D)).length = σ'.length := by simp
    refine k τ out s' σ' H' M' (σ'.map fun _ => none) (.ret u) (z.step (hi _ _ I) ⟨hl, fun i w e => ?_⟩ m t hg hz) ⟨v, w, rv, rw', e⟩
    rw [List.getElem?_map] at e
    obtain ⟨_, _, e⟩ := Option.map_eq_some_iff.mp e
    cases e
theorem gs_plain {t : DS} (h : ∀ s H, PDS (B.X s H) st t) : GS B st (gPlain t) := ⟨fun τ out c fs Kc J gd lv ip sl pc s σ H M env E at_ k z ht => by
  refine sf_wrap ?_
  rw [at_.over]
  refine wpAny_mono (wp_calm (R := fun f s' => Sf (model B.G.P B.G.w) B.G.A (EndF B.G out τ.δ τ.s τ.H) c (Kc f) fs s') z (fun s1 I _ => (h τ.s τ.H).run ip s1 σ H (LE B E out H M) I ⟨env, M, _, z.ev, z.mr, ht, le_post⟩) fun f s1 s' q hi hg hz _ => plain_end z k q hi hg hz) (fun _ _ q => q) fun _ _ q => q.elim⟩
theorem gss_plain {t : DS} (h : ∀ s H, PDSs (B.X s H) rest t) : GSs B rest (gPlain t) := ⟨fun τ out c fs Kc J gd lv ip sl pc s σ H M env E at_ k z ht => by
  refine sf_wrap ?_
  rw [at_.over]
  refine wpAny_mono (wp_calm (R := fun f s' => Sf (model B.G.P B.G.w) B.G.A (EndF B.G out τ.δ τ.s τ.H) c (Kc f) fs s') z (fun s1 I _ => (h τ.s τ.H).run ip s1 σ H (LE B E out H M) I ⟨env, M, _, z.ev, z.mr, ht, le_post⟩) fun f s1 s' q hi hg hz _ => plain_end z k q hi hg hz) (fun _ _ q => q) fun _ _ q => q.elim⟩
def gNx : DGn := fun E out env M => E.nx out env M
def gSeq (t u : DGn) : DGn := fun E out env M => t { E with nx := u E } out env M
theorem gss_nil : GSs B [] gNx := ⟨fun τ out c fs Kc J gd lv ip sl pc s σ H M env E at_ k z ht => k τ out s σ H M env .next z ht⟩
theorem gss_cons {t u : DGn} (a : GS B st t) (b : GSs B rest u) : GSs B (st :: rest) (gSeq t u) := ⟨fun τ out c fs Kc J gd lv ip sl pc s σ H M env E at_ k z ht => by
  rw [execs_cons_wrap]
  refine a.run τ out c fs _ J gd lv ip sl pc s σ H M env { E with nx := u E } at_ (fun τ' out' s' σ' H' M' env' f z' q => ?_) z ht
  cases f with
  | next => exact b.run τ' out' c fs Kc J gd lv ip sl pc s' σ' H' M' env' E at_ k z' q
  | brk => exact k τ' out' s' σ' H' M' env' .brk z' q
  | cont => exact k τ' out' s' σ' H' M' env' .cont z' q
  | ret u => exact k τ' out' s' σ' H' M' env' (.ret u) z' q⟩
theorem gss_one {t : DGn} (a : GS B st t) : GSs B [st] t := ⟨fun τ out c fs Kc J gd lv ip sl pc s σ H M env E at_ k z ht => by
  rw [execs_cons_wrap]
  refine a.run τ out c fs _ J gd lv ip sl pc s σ H M env E at_ (fun τ' out' s' σ' H' M' env' f z' q => ?_) z ht
  cases f with
  | next => exact k τ' out' s' σ' H' M' env' .next z' q
  | brk => exact k τ' out' s' σ' H' M' env' .brk z' q
  | cont => exact k τ' out' s' σ' H' M' env' .cont z' q
  | ret u => exact k τ' out' s' σ' H' M' env' (.ret u) z' q⟩
end
end Gz
/-! yield, if, for within a generator's body -/
namespace Gz
open PySem PySem.Spec PyProof.Rows L2 GenW Dz

/-! ### it falls asleep, it wakes -/
open Classical in
noncomputable def hpOf (H : Hp) (M : Sg) (pc : Hp) : Hp := fun b => if (∃ o, H b = some o ∧ Kd o) ∧ (¬ Mut (H b) ∨ ¬ Off M b ∨ pc b ≠ none) then H b else none
theorem hpOf_some {H : Hp} {M : Sg} {pc : Hp} {b : Addr} {o : HO} (h : hpOf H M pc b = some o) : H b = some o ∧ Kd o := by
  unfold hpOf at h
  split at h
  · rename_i q
    obtain ⟨⟨o', e, k⟩, _⟩ := q
    rw [e] at h
    cases h
    exact ⟨e, k⟩
  · cases h
theorem hpOf_of {H : Hp} {M : Sg} {pc : Hp} {b : Addr} {o : HO} (h : H b = some o) (k : Kd o) (q : ¬ Mut (some o) ∨ ¬ Off M b ∨ pc b ≠ none) : hpOf H M pc b = some o := by
  unfold hpOf
  rw [if_pos ⟨⟨o, h, k⟩, by rw [h]; exact q⟩]
  exact h
theorem hpOf_none {H : Hp} {M : Sg} {pc : Hp} {b : Addr} {o : HO} (h : H b = some o) (m : Mut (some o)) (f : Off M b) (p : pc b = none) : hpOf H M pc b = none := by
  unfold hpOf
  rw [if_neg]
  rintro ⟨_, q | q | q⟩
  · rw [h] at q; exact q m
  · exact q f
  · exact q p
theorem mrep_keep {K : PySem.W.Frag} {H H' : Hp} {M : Sg} (m : MRep K H M) (e : Ext H H') (k : ∀ b o, H b = some o → Mut (some o) → ¬ Off M b → H' b = some o) : MRep K H' M := by
  have at_ : ∀ b, M.M b ≠ none → H' b = H b := fun b hb => by
    cases q : M.M b with
    | none => exact absurd q hb
    | some mo =>
      have mu := (m.at_ b mo q).mut
      cases hh : H b with
      | none => rw [hh] at mu; exact mu.elim
      | some o => rw [hh] at mu; exact k b o hh mu fun f => hb f.1
  have pv_ : ∀ b ∈ M.pv, H' b = H b := fun b hb => by
    have mu := (m.pvs b hb).1
    cases hh : H b with
    | none => rw [hh] at mu; exact mu.elim
    | some o => rw [hh] at mu; exact k b o hh mu fun f => f.2 hb
  refine ⟨fun b o h => ?_, m.one, fun b hb => ⟨by rw [pv_ b hb]; exact (m.pvs b hb).1, (m.pvs b hb).2⟩⟩
  have q := m.at_ b o h
  have e1 := at_ b (by rw [h]; simp)
  cases o with
  | lst ws => obtain ⟨vs, z1, z2⟩ := q; exact ⟨vs, e1.trans z1, Reps.ext e _ _ z2⟩
  | dic ks ws => obtain ⟨vs, z1, z2, z3⟩ := q; exact ⟨vs, e1.trans z1, z2, Reps.ext e _ _ z3⟩
  | ins C ns ws => obtain ⟨dx, vs, z1, z2, z3⟩ := q; exact ⟨dx, vs, e1.trans z1, z2, Reps.ext e _ _ z3⟩
  | box I => obtain ⟨st, vs, z0, z1, z2, z3⟩ := q; exact ⟨st, vs, z0, e1.trans z1, z2.keep fun c hc => pv_ c hc, z3⟩
section
variable {B : Gb} {τ : Tau} {ip : List (Addr × Obj)} {sl : List (Nat × GenState)} {pc : Hp} {σ : L2.St} {H : Hp} {M : Sg} {env : Ev} {s : Shared}
noncomputable def dlOf (B : Gb) (ip : List (Addr × Obj)) (sl : List (Nat × GenState)) (pc : Hp) (H : Hp) (M : Sg) (oL : Obj) : Dl := ⟨(B.G.n, oL) :: ip, sl, hpOf H M pc⟩
theorem Stt.own (z : Stt B τ ip sl pc σ H M env s) : ∃ oL, s.heap.get? B.G.n = some oL ∧ ∀ v, oL.data ≠ .cell v := by
  obtain ⟨m, ⟨o, es, ep, ho, hd, _⟩, _⟩ := z.inv.loc
  exact ⟨o, ho, fun v q => by rw [hd] at q; cases q⟩
theorem Stt.hd (z : Stt B τ ip sl pc σ H M env s) {oL : Obj} (hL : s.heap.get? B.G.n = some oL) (hc : ∀ v, oL.data ≠ .cell v) : Hd B.G (dlOf B ip sl pc H M oL) s H where
  own := fun p hp => by
    rcases List.mem_cons.mp hp with rfl | hp
    · exact ⟨hL, z.inv.free, Nat.le_refl _, hc⟩
    · obtain ⟨q1, q2, _, _, q3⟩ := z.inv.pin p (List.mem_append_right _ hp)
      exact ⟨q1, q2, z.ipn p hp, q3⟩
  self := List.mem_cons_of_mem _ z.self
  fam := z.gs
  hp := fun b o h => hpOf_some h
theorem Stt.un (z : Stt B τ ip sl pc σ H M env s) : Un (frs B.G.outer) (upFrom B.G.n τ.s) τ.H H τ.s.heap s.heap := by
  have u := z.inv.base
  have lo : ∀ b o, τ.s.heap.get? b = some o → b ∉ upFrom B.G.n τ.s → (trunc τ.s.heap B.G.n).get? b = some o := fun b o e n => by
    have h1 := Heap.lt_size e
    have h2 : b < B.G.n := by
      rcases Nat.lt_or_ge b B.G.n with q | q
      · exact q
      · exact absurd (mem_upFrom.mpr ⟨h1, q⟩) n
    rw [trunc_get h2]; exact e
  exact ⟨fun b o e n hb hx => u.keep b o (lo b o e hx) n hb (fun q => nomatch q), fun b o e n hb hx => u.slot b o (lo b o e hx) n hb (fun q => nomatch q), fun b o e n hx => u.free b o (lo b o e hx) n (fun q => nomatch q), fun b o e hx => u.there b o (lo b o e hx) (fun q => nomatch q), u.tups, u.frzs, u.tbls⟩
theorem Stt.bk (z : Stt B τ ip sl pc σ H M env s) {oL : Obj} : Bk B.G τ.δ τ.s τ.H s H (dlOf B ip sl pc H M oL) :=
  ⟨z.inv.os, z.inv.bare, z.un, z.inv.hok, fun b o h mu n => by
    obtain ⟨h1, h2, h3⟩ := z.fg b o h mu n
    exact ⟨h1, hpOf_none h1 mu h2 h3⟩, z.slf⟩
theorem Stt.wake (ok : GbOk B) (z : Stt B τ ip sl pc σ H M env s) {oL : Obj} (hL : s.heap.get? B.G.n = some oL) {s' : Shared} {H' : Hp} (wk : Wk B.G (dlOf B ip sl pc H M oL) s' H') : Stt B ⟨s', H', dlOf B ip sl pc H M oL⟩ ip sl pc σ H' M env (s'.setGen B.G.g .running) := by
  have kp : ∀ b o, H b = some o → Kd o → (¬ Mut (some o) ∨ ¬ Off M b ∨ pc b ≠ none) → H' b = some o := fun b o h k q => (wk.hd.hp b o (hpOf_of h k q)).1
  have ex : Ext H H' := ⟨fun b xs h => kp b _ h (.inr (.inl ⟨xs, rfl⟩)) (.inl fun q => q), fun b o u h => kp b _ h (.inr (.inr ⟨o, u, rfl⟩)) (.inl fun q => q)⟩
  obtain ⟨q1, q2, _, _⟩ := wk.hd.own (B.G.n, oL) List.mem_cons_self
  have hb : AllBare (s'.setGen B.G.g .running).gens := L2.allBare_setGen wk.env.bare rfl
  have I : Inv (B.X s' H') ip σ H' s' := by
    refine inv_wake ok wk.env (Nat.le_of_lt (Heap.lt_size q1)) ?_ q2 (fun p hp => ?_) z.inv.len
    · obtain ⟨m, ⟨o, es, ep, ho, r⟩, hl⟩ := z.inv.loc
      rw [show s.heap.get? (B.X τ.s τ.H).env.locals = some oL from hL] at ho
      cases ho
      refine ⟨m, ⟨oL, es, ep, q1, r⟩, fun i x v e1 e2 e3 => ?_⟩
      obtain ⟨u, ru, lk⟩ := hl i x v e1 e2 e3
      refine ⟨u, ru, ?_⟩
      rcases lk with lk | ⟨_, c, e, _⟩
      · exact .inl lk
      · exact (ok.nocell x c e).elim
    · obtain ⟨p1, p2, p3, p4⟩ := wk.hd.own p (List.mem_cons_of_mem _ hp)
      obtain ⟨_, _, n1, n2, _⟩ := z.inv.pin p (List.mem_append_right _ hp)
      exact ⟨p1, p2, n1, n2, p4⟩
  refine ⟨inv_gens I rfl rfl hb, z.ev.ext ex, mrep_keep z.mr ex fun b o h mu f => kp b o h (.inl mu) (.inr (.inl f)), fun p hp => ?_, fun b o h mu n => ?_, fun b o h => ?_, z.ipn, z.self, wk.os, Nat.le_of_lt (Heap.lt_size q1), ?_, ?_, fun p hp => .inl ⟨p, hp, rfl⟩⟩
  · obtain ⟨g1, g2, g3⟩ := wk.hd.fam p hp
    refine ⟨?_, g2, g3⟩
    show (s'.gens.setIfInBounds B.G.g _)[p.1]? = _
    rw [Array.getElem?_setIfInBounds_ne (Ne.symm g3)]
    exact g1
  · refine ⟨h, ?_, ?_⟩
    · refine Classical.byContradiction fun f => ?_
      have : ∃ o', H b = some o' ∧ Mut (some o') := by
        cases q : M.M b with
        | some mo =>
          have mu' := (z.mr.at_ b mo q).mut
          cases hh : H b with
          | none => rw [hh] at mu'; exact mu'.elim
          | some o' => rw [hh] at mu'; exact ⟨o', rfl, mu'⟩
        | none =>
          have mu' := (z.mr.pvs b (Classical.not_not.mp fun f' => f ⟨q, f'⟩)).1
          cases hh : H b with
          | none => rw [hh] at mu'; exact mu'.elim
          | some o' => rw [hh] at mu'; exact ⟨o', rfl, mu'⟩
      obtain ⟨o', e, mu'⟩ := this
      have := hpOf_of e (.inl mu') (pc := pc) (.inr (.inl f))
      rw [show hpOf H M pc b = none from n] at this
      cases this
    · cases q : pc b with
      | none => rfl
      | some o' =>
        obtain ⟨e1, e2, _⟩ := z.pc b o' q
        have := hpOf_of (M := M) (pc := pc) e1 e2 (.inr (.inr (by rw [q]; simp)))
        rw [show hpOf H M pc b = none from n] at this
        cases this
  · obtain ⟨e1, e2, e3⟩ := z.pc b o h
    exact ⟨kp b o e1 e2 (.inr (.inr (by rw [h]; simp))), e2, e3⟩
  · rw [setGen_size]; exact wk.gl
  · rw [setGen_size]; exact Nat.le_refl _
end

/-! ### yield -/
theorem sf_exYield {M : Model} {A : Around} {Φ : End → Shared → Prop} {c : Code} {fs : List Frame} {s : Shared} {env : Env} {Kc : Flow → Sem PySem.Fin} {J : Value → Sem PySem.Fin} {gd : Bool → Bool} {lv : List Value → List Value} {e : Expr} {yp pos : Pos} (hfs : splitAtGen fs = none)
    (h : wpAny M (A.over c fs) (eval e env) (fun v s' => ∀ l k p, (∀ Ψ s'', Sf M A Ψ c (Kc .next) fs s'' → Sf M A Ψ c (k (.send .none)) fs s'') → Φ (.susp v (gd false) l k c p fs) s') (fun x s' => Sf M A Φ c (J x) fs s') s)
    (hco : env.scope.isCoroutine = false) (hi : interactive env = false := by rfl) : Sf M A Φ c ((exec (.Expr (.Yield (some e) yp) pos) env).wrap Kc J gd lv) fs s := by
  rw [exec_Expr env _ pos hi rfl]
  show Sf M A Φ c (.at pos fun _ => ((eval e env >>= fun v => (standAt yp >>= fun _ => yieldOut env v)) >>= fun x => dropValue (.Yield (some e) yp) pos x).wrap Kc J gd lv) fs s
  have hy : yieldOut env = yieldValue := funext fun v => by simp only [yieldOut, hco, Bool.false_eq_true, if_false]
  rw [hy]
  refine sf_at ?_
  rw [Sem.bind_eq_wrap', Sem.bind_eq_wrap', Sem.wrap_wrap, Sem.wrap_wrap]
  refine sf_wrap (wpAny_mono h (fun v s' q => ?_) fun _ _ x => x)
  refine sf_at (sf_yield hfs fun p => q _ _ p fun Ψ s'' z => ?_)
  exact z
section
variable {B : Gb} {st : Stmt} {rest : List Stmt}
def gOut (E : GE) (env : Ev) (w : D) (M1 : Sg) : List D → Prop
  | x :: r => w = x ∧ E.nx r env M1
  | [] => False
def gYield (te : DE) : DGn := fun E out env M => te env M fun w M1 => gOut E env w M1 out
theorem gs_yield (ok : GbOk B) {e : Expr} {te : DE} {yp pos : Pos} (he : ∀ s H, PD (B.X s H) e te) : GS B (.Expr (.Yield (some e) yp) pos) (gYield te) := ⟨fun τ out c fs Kc J gd lv ip sl pc s σ H M env E at_ k z ht => by
  refine sf_exYield at_.split ?_ ok.co ok.inter
  rw [at_.over]
  refine wpAny_mono (wp_calm (R := fun v s' => ∃ u H' M' w, RelV u v ∧ Rep B.G.K H' w u ∧ Stt B τ ip sl pc σ H' M' env s' ∧ gOut E env w M' out) z
    (fun s1 I _ => (he τ.s τ.H).run ip s1 σ H (fun u H' => ∃ w M', Rep B.G.K H' w u ∧ MRep B.G.K H' M' ∧ Stp H M H' M' ∧ gOut E env w M' out) I ⟨env, M, _, z.ev, z.mr, ht, fun w M' u H' q t m r => ⟨w, M', r, m, t, q⟩⟩)
    fun v s1 s' ⟨u, H', I', ru, w, M', rw', m', t', q⟩ hi hg hz _ => ⟨u, H', M', w, ru, rw', z.step (hi _ _ I') (z.ev.ext t'.ext) m' t' hg hz, q⟩) (fun v s' ⟨u, H', M', w, ru, rw', z', q⟩ l kk p hk => ?_) fun _ _ q => q.elim
  cases out with
  | nil => exact q.elim
  | cons x r =>
    obtain ⟨rfl, q⟩ := q
    obtain ⟨oL, hL, hc⟩ := z'.own
    refine ⟨?_, at_.split, v, u, H', dlOf B ip sl pc H' M' oL, rfl, ru, rw', z'.bk, z'.hd hL hc, ?_⟩
    · show (gd false || fs.any Frame.guarded) = false
      rw [at_.gd, at_.guard]; rfl
    · refine rdy_iff.mpr fun s2 H2 wk => ?_
      refine hk _ _ ?_
      exact k ⟨s2, H2, dlOf B ip sl pc H' M' oL⟩ r (s2.setGen B.G.g .running) σ H2 M' env .next (z'.wake ok hL wk) q⟩
end
end Gz
/-! a generator def's promise; its call -/
namespace Gz
open PySem PySem.Spec PyProof.Rows L2 GenW Dz

/-- what a generator hands out, by its arguments -/
abbrev SpGD := List D → List D → Prop
/-- what a call of a generator def gives -/
def Made (P : Program) (w : World) (K : PySem.W.Frag) (mg : Str → Option Value) (base : Heap) (k : Nat) (outer : List Env) (s : Shared) (H : Hp) (out : List D) (u : Value) (s' : Shared) : Prop :=
  ∃ a g go c δ, u = .ref a ∧ (∀ h : Heap, h.get? a = some go → h.IsGen a g) ∧ g = s.gens.size ∧ s'.gens = s.gens.push (.fresh c) ∧ s'.os = s.os ∧ (∀ b o, s.heap.get? b = some o → s'.heap.get? b = some o) ∧ (∀ b o, δ.hp b = some o → ¬ Mut (some o)) ∧ δ.fam = [] ∧ s.heap.objs.size < a ∧
    ∀ A, Room k A → A.guards = some [] → A.frames = some outer → Sl ⟨P, w, K, mg, base, A, outer, s.heap.objs.size, a, go, g, s.os⟩ out δ (.fresh c) s' H
structure GFn (P : Program) (w : World) (K : PySem.W.Frag) (mg : Str → Option Value) (base : Heap) (k : Nat) (f : Addr) (fd : FuncData) (ps : List Str) (sp : SpGD) : Prop where
  len : ∀ ws out, sp ws out → ws.length = ps.length
  run : ∀ (A : Around) (outer : List Env) (s : Shared) (H : Hp) (args : Args) (us : List Value) (vs : List V) (ws out : List D), Room k A → A.guards = some [] → Env0 P w K mg base A outer s H → BindsTo s fd args (ps.zip us) → Vals vs us → Reps K H ws vs → sp ws out →
    codeAny (model P w) A (.call (.ref f) args) (fun r s' => ∃ u, r = .ok (.ret u) ∧ Made P w K mg base k outer s H out u s') s
def M0 : Sg := ⟨fun _ => none, 0, []⟩
theorem mrep0 {K : PySem.W.Frag} {H : Hp} : MRep K H M0 := ⟨(fun _ _ h => nomatch h), (fun _ _ _ _ h => nomatch h), (fun _ h => nomatch h)⟩
theorem off0 (b : Addr) : Off M0 b := ⟨rfl, fun h => nomatch h⟩
/-- the static facts of a generator def's scope -/
structure GSc (N ps : List Str) (sc : Scope) : Prop extends GScope N ps sc where
  cells : ∀ L, cellsFrom L sc.names [] = []
  names : ∀ y ∈ sc.names, y.2 ≠ .cell ∧ y.2 ≠ .free
  inter : ∀ q L f cd, interactive (envOfC q sc L f cd) = false
theorem sf_func {prog : Program} {w : World} {A : Around} {Φ : End → Shared → Prop} {fs : List Frame} {s : Shared} {env : Env} {body : List Stmt}
    (h : ∀ J, Sf (model prog w) A Φ (.func body env) ((execs body env).wrap (fun f => .pure (.done (.ret (match f with | .ret v => v | _ => .none)))) J id id) fs s) : Sf (model prog w) A Φ (.func body env) ((model prog w).den (.func body env)) fs s := by
  show Sf _ A Φ _ (.point [] fun _ => ((execs body env).onRaise (leaving env)) >>= _) fs s
  refine sf_point ?_
  rw [Sem.onRaise_eq_wrap, Sem.bind_eq_wrap', Sem.wrap_wrap]
  rw [Sem.wrap_congr (execs body env) _ _ (K' := fun f => .pure (.done (.ret (match f with | .ret v => v | _ => .none)))) (H' := fun e => (leaving env e).wrap (fun _ => .raise e) .raise id id) (fun f => by cases f <;> rfl) (fun e => by rw [Sem.bind_eq_wrap, Sem.wrap_wrap]; rfl)]
  exact h _
theorem gfn_of {P : Program} {w : World} {K : PySem.W.Frag} {mg : Str → Option Value} {base : Heap} {k : Nat} {f : Addr} {fd : FuncData} {x qual : Str} {params : Arguments} {body : List Stmt} {scope : Scope} {dvs : List V} {kws : List (Str × V)} {N ps : List Str} {sp : SpGD} {tg : DGn}
    (F : FunD K x qual params body scope dvs kws f fd) (S : GSc N ps scope)
    (hbody : ∀ (B : Gb), B.G.P = P → B.G.w = w → B.G.K = K → B.G.mg = mg → B.G.base = base → B.N = N → B.qual = qual → B.scope = scope → GbOk B → Room k (B.G.A.deeper B.env) → (B.G.A.deeper B.env).guards = some [] → GSs B body tg)
    (sem : ∀ ws out, sp ws out → ws.length = ps.length ∧ tg { nx := fun o _ _ => o = [], rt := fun o w _ => o = [] ∧ w = .non } out (startD N ws) M0) : GFn P w K mg base (k + 1) f fd ps sp := by
  obtain ⟨oc, od, dV, kV, doc, pm, an, cdv, ct, osl, rfl, lk, hcd, _, _⟩ := F.ex
  refine ⟨fun ws out h => (sem ws out h).1, fun A outer s H args us vs ws out hr hg e0 hb r rw' hsp => ?_⟩
  have hl : vs.length = ps.length := by rw [← rw'.len]; exact (sem ws out hsp).1
  have up : ∀ b o, base.get? b = some o → s.heap.get? b = some o := fun b o e => (e0.bs b o e).1
  have KX : K.In s.heap := e0.mod.kin.keeps up
  have hkind : ∀ y ∈ ps.zip us, scope.names.lookup y.1 = some .local ∨ (scope.names.lookup y.1 = some .cell ∧ ((cellsFrom (s.heap.objs.size + 1) scope.names []).lookup y.1).isSome = true) := by
    rintro ⟨n, v⟩ hy
    exact (S.par n (List.of_mem_zip hy).1).imp (fun q => q) fun q => ⟨q, PySem.W.cellsFrom_some _ _ _ (.inl q)⟩
  refine codeAny_call_generator hr.depth (KX _ _ lk) rfl S.co S.gen rfl (PySem.W.codeRec_of KX hcd) (hb _ _ _ _ ?_)
  refine wpAny_newFunctionEnv_cells S.kind hkind fun env he s1 x1 => ?_
  subst he
  have lim := (e0.mod.nolimit.keeps up).keeps x1.toInCall.keep
  refine ⟨lim, ?_⟩
  obtain ⟨h1, tk, es1, hk1⟩ := x1.done
  have os1 : s1.os = s.os := by rw [es1]
  have gen1 : s1.gens = s.gens := by rw [es1]
  have lt1 : s.heap.objs.size < s1.heap.objs.size := x1.toInCall.ns.lt
  have kp1 : ∀ b o, s.heap.get? b = some o → s1.heap.get? b = some o := x1.toInCall.keep
  have I1 : Inv (gcxOf P w K mg base N qual scope f cdv A outer s H E0 []) [] (L2.start N vs) H s1 := inv_startG S.toGScope hr.hd e0 hl r x1
  have main : ∀ (go : Obj) (nm qn : Value) (tk2 : Nat), go.cls = .type "generator" → go.data = .fields #[.int s1.gens.size 0, nm, qn] → go.slots = #[] → (∀ h : Heap, (h.push go).get? h.objs.size = some go) →
      Made P w K mg base (k + 1) outer s H out (.ref s1.heap.objs.size) { s1 with gens := s1.gens.push (.fresh (.func body (envOfC qual scope s.heap.objs.size f cdv))), toks := tk2, heap := s1.heap.push go } := by
    intro go nm qn tk2 hgc hgd0 hgs hgp
    have hgen : ∀ h : Heap, h.get? s1.heap.objs.size = some go → h.IsGen s1.heap.objs.size s1.gens.size := fun h e => ⟨go, nm, qn, e, hgc, hgd0, hgs⟩
    have hgd : ∀ v, go.data ≠ .cell v := fun v q => by rw [hgd0] at q; cases q
    obtain ⟨oL, es, ep, hoL, hdL, hsL⟩ : ∃ oL es ep, s1.heap.get? s.heap.objs.size = some oL ∧ oL.data = .dict es ep ∧ True := by
      obtain ⟨m, ⟨o, es, ep, ho, hd, _⟩, _⟩ := I1.loc
      exact ⟨o, es, ep, ho, hd, trivial⟩
    have hcL : ∀ v, oL.data ≠ .cell v := fun v q => by rw [hdL] at q; cases q
    refine ⟨s1.heap.objs.size, s1.gens.size, go, _, ⟨[(s.heap.objs.size, oL), (s1.heap.objs.size, go)], [], hpOf H M0 fun _ => none⟩, rfl, hgen, by rw [gen1], by rw [gen1], os1, fun b o e => Heap.get?_push_of_some _ (kp1 b o e), fun b o h mu => ?_, rfl, lt1, fun A' hr' hg' hf' => ?_⟩
    · have h : hpOf H M0 (fun _ => none) b = some o := h
      obtain ⟨e, _⟩ := hpOf_some h
      rw [hpOf_none e mu (off0 b) rfl] at h
      cases h
    have hd0 : Hd ⟨P, w, K, mg, base, A', outer, s.heap.objs.size, s1.heap.objs.size, go, s1.gens.size, s.os⟩ ⟨[(s.heap.objs.size, oL), (s1.heap.objs.size, go)], [], hpOf H M0 fun _ => none⟩ { s1 with gens := s1.gens.push (.fresh (.func body (envOfC qual scope s.heap.objs.size f cdv))), toks := tk2, heap := s1.heap.push go } H := by
      refine ⟨fun p hp => ?_, by simp, (fun p hp => nomatch hp), fun b o h => hpOf_some (M := M0) (pc := fun _ => none) h⟩
      simp only [List.mem_cons, List.not_mem_nil, or_false] at hp
      rcases hp with rfl | rfl
      · exact ⟨Heap.get?_push_of_some _ hoL, e0.hok.fresh (Nat.le_refl _), Nat.le_refl _, hcL⟩
      · exact ⟨hgp _, I1.hok.fresh (Nat.le_refl _), Nat.le_of_lt lt1, hgd⟩
    refine ⟨hd0, fun q => q.elim, ?_, by show (s1.gens.push _)[s1.gens.size]? = _; simp⟩
    refine rdy_iff.mpr fun s2 H2 wk => ?_
    have okB : GbOk ⟨⟨P, w, K, mg, base, A', outer, s.heap.objs.size, s1.heap.objs.size, go, s1.gens.size, s.os⟩, N, qual, scope, f, cdv⟩ := by
      refine ⟨S.kind, S.co, S.cells, S.names, hr'.hd, fun b hb => ?_, e0.bsz, hgd, ?_, S.inter _ _ _ _⟩
      · obtain ⟨_, o, ho, _⟩ := e0.funs.mem hb
        exact Heap.lt_size ho
      · have := hr'.dp
        show A'.depth + 1 < _
        omega
    have kp : ∀ b o, H b = some o → Kd o → ¬ Mut (some o) → H2 b = some o := fun b o h k q => (wk.hd.hp b o (hpOf_of (M := M0) (pc := fun _ => none) h k (.inl q))).1
    have ex : Ext H H2 := ⟨fun b xs h => kp b _ h (.inr (.inl ⟨xs, rfl⟩)) fun q => q, fun b o u h => kp b _ h (.inr (.inr ⟨o, u, rfl⟩)) fun q => q⟩
    obtain ⟨q1, q2, _, _⟩ := wk.hd.own (s.heap.objs.size, oL) (by simp)
    obtain ⟨a1, a2, _, _⟩ := wk.hd.own (s1.heap.objs.size, go) (by simp)
    have hb2 : AllBare (s2.setGen s1.gens.size .running).gens := L2.allBare_setGen wk.env.bare rfl
    have hfr : s1.heap.objs.size ∉ frs outer := fun hb => by
      obtain ⟨_, o, ho, _⟩ := e0.funs.mem hb
      exact absurd (Nat.lt_trans (Heap.lt_size ho) lt1) (Nat.lt_irrefl _)
    have Iw : Inv (Gb.X ⟨⟨P, w, K, mg, base, A', outer, s.heap.objs.size, s1.heap.objs.size, go, s1.gens.size, s.os⟩, N, qual, scope, f, cdv⟩ s2 H2) [(s1.heap.objs.size, go)] (L2.start N vs) H2 s2 := by
      refine inv_wake okB wk.env (Nat.le_of_lt (Heap.lt_size q1)) ?_ q2 (fun p hp => ?_) I1.len
      · obtain ⟨m, ⟨o, es', ep', ho, r'⟩, hl'⟩ := I1.loc
        rw [show s1.heap.get? (gcxOf P w K mg base N qual scope f cdv A outer s H E0 []).env.locals = some oL from hoL] at ho
        cases ho
        refine ⟨m, ⟨oL, es', ep', q1, r'⟩, fun i y v e1 e2 e3 => ?_⟩
        obtain ⟨u, ru, lk'⟩ := hl' i y v e1 e2 e3
        refine ⟨u, ru, ?_⟩
        rcases lk' with lk' | ⟨_, c, e, _⟩
        · exact .inl lk'
        · exact (okB.nocell y c e).elim
      · rw [List.mem_singleton.mp hp]
        exact ⟨a1, a2, Nat.ne_of_gt lt1, hfr, hgd⟩
    refine sf_func fun J => ?_
    have G := hbody ⟨⟨P, w, K, mg, base, A', outer, s.heap.objs.size, s1.heap.objs.size, go, s1.gens.size, s.os⟩, N, qual, scope, f, cdv⟩ rfl rfl rfl rfl rfl rfl rfl rfl okB (hr'.deeper _) hg'
    refine G.run ⟨s2, H2, ⟨[(s.heap.objs.size, oL), (s1.heap.objs.size, go)], [], hpOf H M0 fun _ => none⟩⟩ out _ [] _ J id id [(s1.heap.objs.size, go)] [] (fun _ => none) (s2.setGen s1.gens.size .running) (L2.start N vs) H2 M0 (startD N ws) _ ⟨over_func, rfl, rfl, rfl⟩ (fun τ' o' s' σ' H' M' env' fl z q => ?_)
      ⟨inv_gens Iw rfl rfl hb2, renv_start (Reps.ext ex _ _ rw'), mrep0, fun p hp => (nomatch hp), fun b o h mu n => ⟨h, off0 b, rfl⟩, fun b o h => (nomatch h), fun p hp => by rw [List.mem_singleton.mp hp]; exact Nat.le_of_lt lt1, by simp, wk.os, Nat.le_of_lt (Heap.lt_size q1), by rw [setGen_size]; exact wk.gl, by rw [setGen_size]; exact Nat.le_refl _, fun p hp => (nomatch hp)⟩ (sem ws out hsp).2
    have fin : o' = [] → Sf (model P w) A' (EndF ⟨P, w, K, mg, base, A', outer, s.heap.objs.size, s1.heap.objs.size, go, s1.gens.size, s.os⟩ o' τ'.δ τ'.s τ'.H) (.func body (envOfC qual scope s.heap.objs.size f cdv)) (.pure (.done (.ret .none))) [] s' := fun e => by
      subst e
      refine sf_end (.ok (.ret .none)) ⟨trivial, _, rfl, H', z.inv.os, z.inv.bare, z.un, z.inv.hok, fun b o h mu n => ⟨(z.fg b o h mu n).1, rfl⟩, fun p hp => nomatch hp⟩
    cases fl with
    | next => exact fin q
    | brk => exact q.elim
    | cont => exact q.elim
    | ret u =>
      obtain ⟨v, w', rv, rw2, e, ew⟩ := q
      subst ew
      cases (show v = .non from rw2)
      cases (show u = Value.none from rv)
      exact fin e
  exact ⟨_, rfl, main _ _ _ _ rfl rfl rfl fun h => Heap.get?_push_size _ rfl⟩
end Gz
/-! expressions that give generators; if, for within a generator's body -/
namespace Gz
open PySem PySem.Spec PyProof.Rows L2 GenW Dz

/-! ### a generator def as others call it -/
structure GDf (P : Program) (w : World) (K : PySem.W.Frag) (mg : Str → Option Value) (base : Heap) (k : Nat) (x : Str) (ps : List Str) (sp : SpGD) : Prop where
  ex : ∃ f fd, mg x = some (.ref f) ∧ PySem.W.keepIn K (.ref f) = true ∧ Binds K fd ps [] ∧ GFn P w K mg base k f fd ps sp
theorem Made.mono {P : Program} {w : World} {K : PySem.W.Frag} {mg : Str → Option Value} {base : Heap} {j k : Nat} {outer : List Env} {s s' : Shared} {H : Hp} {out : List D} {u : Value} (h : Made P w K mg base j outer s H out u s') (l : j ≤ k) : Made P w K mg base k outer s H out u s' := by
  obtain ⟨a, g, go, c, δ, h1, h2, h3, h4, h5, h6, h7, h8, h9, h10⟩ := h
  exact ⟨a, g, go, c, δ, h1, h2, h3, h4, h5, h6, h7, h8, h9, fun A hr => h10 A (hr.mono l)⟩
abbrev DGx := Ev → Sg → (List D → Sg → Prop) → Prop
def liftGx (K : PySem.W.Frag) (t : DGx) (σ : L2.St) (H : Hp) (Q : List D → Hp → Prop) : Prop := ∃ env M R, REnv K H env σ ∧ MRep K H M ∧ t env M R ∧ ∀ out M' H', R out M' → Stp H M H' M' → MRep K H' M' → Q out H'
structure PGn (X : Cx) (k : Nat) (e : Expr) (t : DGx) : Prop where
  run : ∀ (pins : List (Addr × Obj)) (s : Shared) (σ : L2.St) (H : Hp) (Q : List D → Hp → Prop), Inv X pins σ H s → liftGx X.K t σ H Q → wpAny (model X.prog X.w) X.A (eval e X.env) (fun u s' => ∃ sc H1 out, Inv X pins σ H1 sc ∧ Made X.prog X.w X.K X.mg X.base k X.stack sc H1 out u s' ∧ Q out H1 ∧ s.gens.size ≤ sc.gens.size) X.xe s
def dGCall (sp : SpGD) (ta : DA) : DGx := fun env M R => ta env M fun ws M1 => ∃ out, sp ws out ∧ R out M1
theorem pgn_call {X : Cx} {k : Nat} {x : Str} {ps : List Str} {sp : SpGD} {p pos : Pos} {e : Expr} {es : List Expr} {t : DA} (F : GDf X.prog X.w X.K X.mg X.base k x ps sp) (hr : Room k X.A) (hgd : X.A.guards = some []) (hg : Gl X x) (ha : PDA X (e :: es) t)
    (hdb : (x == ("__debug__" : Str)) = false := by decide) (he : starEach (e :: es) X.env = (false, eval e X.env) :: starEach es X.env := by rfl) (hpl : (backTo pos (starEach es X.env)).any (·.1) = false := by rfl) : PGn X k (.Call (.Name x p) (e :: es) [] pos) (dGCall sp t) := by
  obtain ⟨f, fd, hm, hk, hb, G⟩ := F.ex
  refine ⟨fun pins s σ H Q I ⟨env, M, R, h1, h2, h3, h4⟩ => ?_⟩
  refine wpAny_Call_Name_kw (ld_glob I hg hm ?_ hdb)
  refine PySem.W.callWith_K (h₀ := X.base) I.ok.mod.kin hk (wpAny_gsz (n := s.gens.size) (Nat.le_refl _) (wpAny_mono (ha.run pos pins s σ H (fun vs H1 => ∃ ws out M1, Reps X.K H1 ws vs ∧ sp ws out ∧ Q out H1) I ⟨env, M, _, h1, h2, h3, fun ws M1 vs H1 ⟨out, q1, q2⟩ t m r => ⟨ws, out, M1, r, q1, h4 out M1 H1 q2 t m⟩⟩) (fun us s1 ⟨vs, H1, I1, r, ws, out, M1, rw', q1, q2⟩ hz => ⟨I1.kIn, ?_⟩) fun _ _ q _ => q)) he hpl
  have hl : us.length = ps.length := by rw [← r.length, ← rw'.len]; exact G.len _ _ q1
  have hb' := hb s1 us I1.kIn (by rw [List.append_nil]; exact hl)
  rw [List.append_nil] at hb'
  refine wpAny_call (codeAny_mono (G.run X.A X.stack s1 H1 ⟨us, []⟩ us vs ws out hr hgd I1.env0 hb' r rw' q1) ?_)
  rintro r' s' ⟨u, rfl, hm'⟩
  exact ⟨s1, H1, out, I1, hm', q2, hz⟩
/-- its consumer begins -/
structure Begun (X : Cx) (pins : List (Addr × Obj)) (σ : L2.St) (H : Hp) (s : Shared) (G : Gk) (out : List D) (δ : Dl) (gs : GenState) (N : Nat) : Prop where
  con : Con X pins G
  inv : Inv X pins σ H s
  sl : Sl G out δ gs s H
  hp : ∀ b o, δ.hp b = some o → ¬ Mut (some o)
  fam : δ.fam = []
  new : N ≤ G.g
  frs : ∃ c, gs = .fresh c
  nlt : X.env.locals < G.n
  lta : G.n < G.a
theorem Made.start {X : Cx} {k N : Nat} {pins : List (Addr × Obj)} {σ : L2.St} {H : Hp} {sc s' : Shared} {out : List D} {u : Value} {A : Around} (hr : Room k A) (hgd : A.guards = some []) (hf : A.frames = X.A.frames) (I : Inv X pins σ H sc) (h : Made X.prog X.w X.K X.mg X.base k X.stack sc H out u s') (hN : N ≤ sc.gens.size) :
    ∃ G δ gs, u = .ref G.a ∧ G.A = A ∧ Begun X pins σ H s' G out δ gs N := by
  obtain ⟨a, g, go, c, δ, rfl, h2, h3, h4, h5, h6, h7, h8, h9, h10⟩ := h
  have sl := h10 A hr hgd (hf.trans I.ok.frames)
  have I' : Inv X pins σ H s' := I.call' (ch := []) h5 (Un.kept h6) (I.hok.kept h6) (by rw [h4]; exact I.bare.push rfl) fun b q => nomatch q
  refine ⟨_, δ, _, rfl, rfl, ⟨rfl, rfl, rfl, rfl, rfl, hf, rfl, I.os.symm, I.sz, I.lt, fun x d e => ?_, fun p hp => Heap.lt_size (I.pin p hp).1, h2⟩, I', sl, h7, h8, by show N ≤ g; rw [h3]; exact hN, ⟨c, rfl⟩, I.lt, h9⟩
  obtain ⟨v, q⟩ := I.cell x d e
  exact q.lt

/-! ### if -/
theorem sf_If {M : Model} {A : Around} {Φ : End → Shared → Prop} {c : Code} {fs : List Frame} {s : Shared} {env : Env} {Kc : Flow → Sem PySem.Fin} {J : Value → Sem PySem.Fin} {gd : Bool → Bool} {lv : List Value → List Value} {test : Expr} {a b : List Stmt} {pos : Pos}
    (h : wpAny M (A.over c fs) (isTrue test env (eval test env)) (fun d s' => Sf M A Φ c ((execs (if d = true then a else b) env).wrap Kc J gd lv) fs s') (fun x s' => Sf M A Φ c (J x) fs s') s) : Sf M A Φ c ((exec (.If test a b pos) env).wrap Kc J gd lv) fs s := by
  rw [exec_If]
  refine sf_bindw (wpAny_standAt ?_)
  refine sf_bindw (wpAny_mono h (fun d s' q => ?_) fun _ _ q => q)
  cases d with
  | true => exact q
  | false => exact q
section
variable {B : Gb} {st : Stmt} {rest : List Stmt}
def gIf (c : DT) (t u : DGn) : DGn := fun E out env M => c env M fun b M1 => if b = true then t E out env M1 else u E out env M1
theorem gs_if {test : Expr} {a b : List Stmt} {pos : Pos} {tc : DT} {t u : DGn} (hc : ∀ s H, PDT (B.X s H) test tc) (ha : GSs B a t) (hb : GSs B b u) : GS B (.If test a b pos) (gIf tc t u) := ⟨fun τ out c fs Kc J gd lv ip sl pc s σ H M env E at_ k z ht => by
  refine sf_If ?_
  rw [at_.over]
  refine wpAny_mono (wp_calm (R := fun d s' => ∃ H' M', Stt B τ ip sl pc σ H' M' env s' ∧ (if d = true then t E out env M' else u E out env M')) z
    (fun s1 I _ => (hc τ.s τ.H).run ip s1 σ H (fun d H' => ∃ M', MRep B.G.K H' M' ∧ Stp H M H' M' ∧ (if d = true then t E out env M' else u E out env M')) I ⟨env, M, _, z.ev, z.mr, ht, fun d M' H' q t m => ⟨M', m, t, q⟩⟩)
    fun d s1 s' ⟨H', I', M', m', t', q⟩ hi hg hz _ => ⟨H', M', z.step (hi _ _ I') (z.ev.ext t'.ext) m' t' hg hz, q⟩) (fun d s' ⟨H', M', z', q⟩ => ?_) fun _ _ q => q.elim
  cases d with
  | true => rw [if_pos rfl] at q ⊢; exact ha.run τ out c fs Kc J gd lv ip sl pc s' σ H' M' env E at_ k z' q
  | false => rw [if_neg Bool.false_ne_true] at q ⊢; exact hb.run τ out c fs Kc J gd lv ip sl pc s' σ H' M' env E at_ k z' q⟩
end

/-! ### for -/
def back (env : Env) (Kc : Flow → Sem PySem.Fin) (J : Value → Sem PySem.Fin) (gd : Bool → Bool) (lv : List Value → List Value) (r : Result) : Sem PySem.Fin := ((match r with | .ok f => (.pure f : Sem Flow) | .error e => .raise e).onRaise fun (x : Value) => do
    if (← field x 1) == Value.none then unsupported "frame.own-activation:exception-without-traceback"
    setFlight x env.frame).wrap Kc J gd lv
theorem sf_For {M : Model} {A : Around} {Φ : End → Shared → Prop} {c : Code} {fs : List Frame} {s : Shared} {env : Env} {Kc : Flow → Sem PySem.Fin} {J : Value → Sem PySem.Fin} {gd : Bool → Bool} {lv : List Value → List Value} {tg iter : Expr} {body : List Stmt} {pos : Pos}
    (h : wpAny M (A.over c fs) (eval iter env) (fun x s1 => wpAny M (A.over c fs) (pyIter x) (fun it s2 => ∀ p, Sf M A Φ (.forLoop tg it body [] env) (M.den (.forLoop tg it body [] env)) (.ret (back env Kc J gd lv) none (gd false) (lv []) c p [] :: fs) s2) (fun _ _ => False) s1) (fun _ _ => False) s)
    (hs : ∀ x, foldedSetIterable iter env x = pure x) : Sf M A Φ c ((exec (.For tg iter body [] pos) env).wrap Kc J gd lv) fs s := by
  rw [exec_For]
  refine sf_bindw (wpAny_standAt ?_)
  refine sf_bindw (wpAny_mono h (fun x s1 h1 => ?_) fun _ _ q => q.elim)
  refine sf_bindw (wpAny_of_eq (hs x) ?_)
  refine sf_bindw (wpAny_standAt ?_)
  refine sf_bindw (wpAny_holding (wpAny_mono h1 (fun it s2 h2 => ?_) fun _ _ q => q.elim))
  exact sf_call h2
theorem sf_turn {P : Program} {w : World} {A : Around} {Φ : End → Shared → Prop} {fs : List Frame} {s : Shared} {env : Env} {tg : Expr} {it : Value} {body : List Stmt}
    (h : wpAny (model P w) (A.over (.forLoop tg it body [] env) fs) (pyNext it) (fun r s1 => match r with
      | none => Sf (model P w) A Φ (.block [] env) (.pure (.done .next)) fs s1
      | some v => wpAny (model P w) (A.over (.forLoop tg it body [] env) fs) (letOwnedTupleGo tg it v) (fun _ s2 => wpAny (model P w) (A.over (.forLoop tg it body [] env) fs) (assign tg env v) (fun _ s3 => ∀ J, Sf (model P w) A Φ (.forLoop tg it body [] env) ((execs body env).wrap (fun f => match f with
          | .next | .cont => .pure (.again (.forLoop tg it body [] env))
          | .brk => .pure (.done .next)
          | .ret v => .pure (.done (.ret v))) J id id) fs s3) (fun _ _ => False) s2) (fun _ _ => False) s1) (fun _ _ => False) s) : Sf (model P w) A Φ (.forLoop tg it body [] env) ((model P w).den (.forLoop tg it body [] env)) fs s := by
  show Sf _ A Φ _ ((forTurn tg it body [] env).onRaise (fun x => do noteFrame x env; theTreesLotGoes x)) fs s
  unfold forTurn
  rw [Sem.onRaise_eq_wrap]
  refine sf_bindw (wpAny_standAt ?_)
  refine sf_bindw (wpAny_onRaise (wpAny_mono h (fun r s1 q => ?_) fun _ _ q => q.elim))
  cases r with
  | none =>
    show Sf _ A Φ _ (.pure (.again (.block [] env))) fs s1
    exact sf_again rfl q
  | some v =>
    refine sf_bindw (wpAny_mono q (fun _ s2 q2 => ?_) fun _ _ q => q.elim)
    refine sf_bindw (wpAny_mono q2 (fun _ s3 q3 => ?_) fun _ _ q => q.elim)
    rw [Sem.bind_eq_wrap', Sem.wrap_wrap]
    rw [Sem.wrap_congr (execs body env) _ _ (K' := fun f => match f with
      | .next | .cont => .pure (.again (.forLoop tg it body [] env))
      | .brk => .pure (.done .next)
      | .ret v => .pure (.done (.ret v))) (fun f => by cases f <;> rfl) (fun _ => rfl)]
    exact q3 _
theorem At.loop {B : Gb} {c c' : Code} {fs : List Frame} {gd : Bool → Bool} {k : Result → Sem PySem.Fin} {l kp : List Value} {p : Pos} (a : At B c fs gd) (hw : c'.weight = 0) (hu : c'.cUnits = 0) : At B c' (.ret k none (gd false) l c p kp :: fs) id where
  over := (over_loop hw hu).trans a.over
  split := by
    show (splitAtGen fs).map _ = none
    rw [a.split]; rfl
  guard := by
    show (gd false || fs.any Frame.guarded) = false
    rw [a.gd, a.guard]; rfl
  gd := rfl
end Gz
/-! for over a generator, within a generator's body -/
namespace Gz
open PySem PySem.Spec PyProof.Rows L2 GenW Dz

def hor (a b : Hp) : Hp := fun x => match a x with
  | some o => some o
  | none => b x
theorem hor_l {a b : Hp} {x : Addr} {o : HO} (h : a x = some o) : hor a b x = some o := by unfold hor; rw [h]
theorem hor_r {a b : Hp} {x : Addr} (h : a x = none) : hor a b x = b x := by unfold hor; rw [h]
theorem hor_none {a b : Hp} {x : Addr} : hor a b x = none ↔ a x = none ∧ b x = none := by
  unfold hor
  cases q : a x <;> simp
theorem hor_cases {a b : Hp} {x : Addr} {o : HO} (h : hor a b x = some o) : a x = some o ∨ b x = some o := by
  unfold hor at h
  cases q : a x with
  | some o' => rw [q] at h; exact .inl h
  | none => rw [q] at h; exact .inr h
section
variable {B : Gb} {τ : Tau} {ip ip' : List (Addr × Obj)} {sl sl' : List (Nat × GenState)} {pc pc' : Hp} {σ : L2.St} {H : Hp} {M : Sg} {env : Ev} {s : Shared}
theorem Stt.more (z : Stt B τ ip sl pc σ H M env s) (hip : ∀ p ∈ ip', s.heap.get? p.1 = some p.2 ∧ H p.1 = none ∧ p.1 ≠ B.G.n ∧ p.1 ∉ frs B.G.outer ∧ (∀ v, p.2.data ≠ .cell v) ∧ B.G.n ≤ p.1)
    (hsl : ∀ p ∈ sl', s.gens[p.1]? = some p.2 ∧ isZ p.2 ∧ p.1 ≠ B.G.g) (hslf : ∀ p ∈ sl', (∃ q ∈ τ.δ.fam, q.1 = p.1) ∨ τ.s.gens.size ≤ p.1)
    (hpc : ∀ b o, pc' b = some o → H b = some o ∧ Kd o ∧ (Mut (some o) → Off M b)) (hfg : ∀ b o, τ.H b = some o → Mut (some o) → τ.δ.hp b = none → pc' b = none) : Stt B τ (ip ++ ip') (sl ++ sl') (hor pc pc') σ H M env s where
  inv := z.inv.pins_of fun p hp => (List.mem_append.mp hp).elim (fun q => z.inv.pin p (List.mem_append_right _ q)) fun q => let ⟨a, b, c, d, e, _⟩ := hip p q; ⟨a, b, c, d, e⟩
  ev := z.ev
  mr := z.mr
  gs := fun p hp => (List.mem_append.mp hp).elim (z.gs p) (hsl p)
  fg := fun b o h mu n => by
    obtain ⟨a1, a2, a3⟩ := z.fg b o h mu n
    exact ⟨a1, a2, hor_none.mpr ⟨a3, hfg b o h mu n⟩⟩
  pc := fun b o h => (hor_cases h).elim (z.pc b o) (hpc b o)
  ipn := fun p hp => (List.mem_append.mp hp).elim (z.ipn p) fun q => (hip p q).2.2.2.2.2
  self := List.mem_append_left _ z.self
  os := z.os
  szn := z.szn
  gl := z.gl
  gz := z.gz
  slf := fun p hp => (List.mem_append.mp hp).elim (z.slf p) (hslf p)
theorem Stt.less (z : Stt B τ (ip ++ ip') (sl ++ sl') (hor pc pc') σ H M env s) (hs : (B.G.a, B.G.go) ∈ ip) : Stt B τ ip sl pc σ H M env s where
  inv := z.inv.pins_of fun p hp => z.inv.pin p (List.mem_append_right _ (List.mem_append_left _ hp))
  ev := z.ev
  mr := z.mr
  gs := fun p hp => z.gs p (List.mem_append_left _ hp)
  fg := fun b o h mu n => let ⟨a1, a2, a3⟩ := z.fg b o h mu n; ⟨a1, a2, (hor_none.mp a3).1⟩
  pc := fun b o h => z.pc b o (hor_l h)
  ipn := fun p hp => z.ipn p (List.mem_append_left _ hp)
  self := hs
  os := z.os
  szn := z.szn
  gl := z.gl
  gz := z.gz
  slf := fun p hp => z.slf p (List.mem_append_left _ hp)
end
/-- at the loop's head -/
structure Lp (B : Gb) (τ : Tau) (ip : List (Addr × Obj)) (sl : List (Nat × GenState)) (pc : Hp) (σ : L2.St) (H : Hp) (M : Sg) (env : Ev) (s : Shared) (G : Gk) (rest : List D) (δ : Dl) (gs : GenState) : Prop where
  st : Stt B τ ip sl pc σ H M env s
  as : Sl G rest δ gs s H
  con : Con (B.X τ.s τ.H) ip G
  ga : G.A = (B.G.A.deeper B.env).in1
  sepM : ∀ b o, δ.hp b = some o → Mut (some o) → Off M b ∧ pc b = none
  sepF : ∀ b o, τ.H b = some o → Mut (some o) → τ.δ.hp b = none → ∀ o', δ.hp b = some o' → ¬ Mut (some o')
  sepG : ∀ p ∈ sl, p.1 ≠ G.g ∧ ∀ q ∈ δ.fam, q.1 ≠ p.1
  gB : B.G.g ≠ G.g ∧ ∀ q ∈ δ.fam, q.1 ≠ B.G.g
  new : (∃ r ∈ τ.δ.fam, r.1 = G.g) ∨ τ.s.gens.size ≤ G.g
  famn : ∀ q ∈ δ.fam, (∃ r ∈ τ.δ.fam, r.1 = q.1) ∨ τ.s.gens.size ≤ q.1
theorem Lp.hpn {B : Gb} {τ : Tau} {ip : List (Addr × Obj)} {sl : List (Nat × GenState)} {pc : Hp} {σ : L2.St} {H : Hp} {M : Sg} {env : Ev} {s : Shared} {G : Gk} {rest : List D} {δ : Dl} {gs : GenState} (l : Lp B τ ip sl pc σ H M env s G rest δ gs) {b : Addr} {o : HO} (h : H b = some o) (mu : Mut (some o)) (q : ¬ Off M b ∨ pc b ≠ none ∨ (∃ o', τ.H b = some o' ∧ Mut (some o') ∧ τ.δ.hp b = none)) : δ.hp b = none := by
  cases e : δ.hp b with
  | none => rfl
  | some o' =>
    have e1 := (l.as.hd.hp b o' e).1
    rw [h] at e1
    cases e1
    obtain ⟨x1, x2⟩ := l.sepM b o e mu
    rcases q with q | q | ⟨o', q1, q2, q3⟩
    · exact absurd x1 q
    · exact absurd x2 q
    · exact absurd mu (l.sepF b o' q1 q2 q3 o e)
theorem mut_of {K : PySem.W.Frag} {H : Hp} {M : Sg} (m : MRep K H M) {b : Addr} (f : ¬ Off M b) : ∃ o, H b = some o ∧ Mut (some o) := by
  have key : Mut (H b) := by
    cases q : M.M b with
    | some mo => exact (m.at_ b mo q).mut
    | none => exact (m.pvs b (Classical.not_not.mp fun f' => f ⟨q, f'⟩)).1
  cases hh : H b with
  | none => rw [hh] at key; exact key.elim
  | some o => rw [hh] at key; exact ⟨o, rfl, key⟩
/-- which sleepers a turn of G leaves alone -/
def others (G : Gk) (δ : Dl) (i : Nat) : Bool := !(i == G.g) && δ.fam.all fun q => !(q.1 == i)
theorem others_g {G : Gk} {δ : Dl} : others G δ G.g = false := by simp [others]
theorem others_fam {G : Gk} {δ : Dl} {q : Nat × GenState} (h : q ∈ δ.fam) : others G δ q.1 = false := by
  unfold others
  rw [Bool.and_eq_false_iff]
  right
  rw [List.all_eq_false]
  exact ⟨q, h, by simp⟩
theorem others_true {G : Gk} {δ : Dl} {i : Nat} (h1 : i ≠ G.g) (h2 : ∀ q ∈ δ.fam, q.1 ≠ i) : others G δ i = true := by
  unfold others
  rw [Bool.and_eq_true]
  refine ⟨by simpa using h1, List.all_eq_true.mpr fun q hq => by simpa using h2 q hq⟩
theorem others_z {G : Gk} {out : List D} {δ : Dl} {gs : GenState} {s : Shared} {H : Hp} (z : Sl G out δ gs s H) : ∀ i st, others G δ i = false → s.gens[i]? = some st → isSusp st → isZ st := fun i st h e hs => by
  unfold others at h
  rw [Bool.and_eq_false_iff] at h
  rcases h with h | h
  · have : i = G.g := by simpa using h
    subst this
    rw [z.at_] at e
    cases e
    exact z.zz hs
  · rw [List.all_eq_false] at h
    obtain ⟨q, hq, e1⟩ := h
    have : q.1 = i := by simpa using e1
    subst this
    obtain ⟨a, b, _⟩ := z.hd.fam q hq
    rw [a] at e
    cases e
    exact b
theorem Sl.low {G : Gk} {out : List D} {δ : Dl} {gs : GenState} {s : Shared} {H : Hp} (z : Sl G out δ gs s H) : Sl G out δ gs (low (others G δ) s) H :=
  ⟨⟨z.hd.own, z.hd.self, fun p hp => ⟨(low_off (others_fam hp)).trans (z.hd.fam p hp).1, (z.hd.fam p hp).2⟩, z.hd.hp⟩, z.zz, z.rdy, (low_off others_g).trans z.at_⟩
theorem low_size (S : Nat → Bool) (s : Shared) : (low S s).gens.size = s.gens.size := by simp [low]
/-- a turn within a generator's body -/
theorem Lp.turn {B : Gb} (ok : GbOk B) {τ : Tau} {ip : List (Addr × Obj)} {sl : List (Nat × GenState)} {pc : Hp} {σ : L2.St} {H : Hp} {M : Sg} {env : Ev} {s : Shared} {G : Gk} {rest : List D} {δ : Dl} {gs : GenState} {Q : Option Value → Shared → Prop} (l : Lp B τ ip sl pc σ H M env s G rest δ gs)
    (h0 : rest = [] → ∀ s' H', Stt B τ ip sl pc σ H' M env s' → Q none s')
    (h1 : ∀ x r, rest = x :: r → ∀ v u s' H' δ' gs', RelV u v → Rep G.K H' x u → isZ gs' → Lp B τ ip sl pc σ H' M env s' G r δ' gs' → Q (some v) s') :
    wpAny (model B.G.P B.G.w) (B.G.A.deeper B.env) (pyNext (.ref G.a)) Q (fun _ _ => False) s := by
  have hdp : (B.X τ.s τ.H).A.depth < recursionLimit := by have := ok.dp; show B.G.A.depth + 1 < _; exact this
  have Il : Inv (B.X τ.s τ.H) ip σ H (low (others G δ) s) := inv_gens l.st.inv rfl rfl (low_bare l.st.inv.bare)
  have kept : ∀ s1 s' H1 δ', Woke (others G δ) s s1 s' → s.gens.size ≤ s'.gens.size → Inv (B.X τ.s τ.H) ip σ H1 s1 → Bk G δ (low (others G δ) s) H s1 H1 δ' → Stt B τ ip sl pc σ H1 M env s' := fun s1 s' H1 δ' wk hz I1 bk => by
    refine ⟨inv_gens I1 wk.heap wk.os (wk.bare l.st.inv.bare I1.bare), l.st.ev.ext bk.ext, mrep_keep l.st.mr bk.ext fun b o h mu f => (bk.fr b o h mu (l.hpn h mu (.inl f))).1, fun p hp => ?_, fun b o h mu n => ?_, fun b o h => ?_, l.st.ipn, l.st.self, l.st.os, l.st.szn, Nat.lt_of_lt_of_le l.st.gl hz, Nat.le_trans l.st.gz hz, l.st.slf⟩
    · obtain ⟨g1, g2, g3⟩ := l.st.gs p hp
      obtain ⟨n1, n2⟩ := l.sepG p hp
      exact ⟨wk.sleep _ _ (others_true n1 n2) g1 g2.susp, g2, g3⟩
    · obtain ⟨a1, a2, a3⟩ := l.st.fg b o h mu n
      exact ⟨(bk.fr b o a1 mu (l.hpn a1 mu (.inr (.inr ⟨o, h, mu, n⟩)))).1, a2, a3⟩
    · obtain ⟨a1, a2, a3⟩ := l.st.pc b o h
      refine ⟨?_, a2, a3⟩
      by_cases mu : Mut (some o)
      · exact (bk.fr b o a1 mu (l.hpn a1 mu (.inr (.inl (by rw [h]; simp))))).1
      · rcases a2 with a2 | ⟨xs, rfl⟩ | ⟨p, u, rfl⟩
        · exact absurd a2 mu
        · exact bk.ext.tups b xs a1
        · exact bk.ext.frzs b p u a1
  refine wpAny_gsz (n := s.gens.size) (Nat.le_refl _) (wpAny_mono (wpAny_low (S := others G δ) (others_z l.as) (Gz.turn (E := fun _ _ => False) (Q := fun r s1 => (rest = [] ∧ r = none ∧ ∃ H1 δ', Inv (B.X τ.s τ.H) ip σ H1 s1 ∧ Bk G δ (low (others G δ) s) H s1 H1 δ') ∨
      ∃ x r' v u H1 δ' gs', rest = x :: r' ∧ r = some v ∧ RelV u v ∧ Rep G.K H1 x u ∧ isZ gs' ∧ Inv (B.X τ.s τ.H) ip σ H1 s1 ∧ Bk G δ (low (others G δ) s) H s1 H1 δ' ∧ Sl G r' δ' gs' s1 H1) l.con l.ga ok.hd hdp Il l.as.low
    (fun e s1 H1 δ' I1 bk => .inl ⟨e, rfl, H1, δ', I1, bk⟩) fun x r' e v u s1 H1 δ' gs' ru rx I1 bk z' hz' => .inr ⟨x, r', v, u, H1, δ', gs', e, rfl, ru, rx, hz', I1, bk, z'⟩)) (fun r s' ⟨s1, wk, q⟩ hz => ?_) fun e s' ⟨_, _, _, _, q⟩ _ => q)
  rcases q with ⟨e, rfl, H1, δ', I1, bk⟩ | ⟨x, r', v, u, H1, δ', gs', e, rfl, ru, rx, hz', I1, bk, z'⟩
  · exact h0 e s' H1 (kept s1 s' H1 δ' wk hz I1 bk)
  · have fin : ∀ p ∈ δ'.fam, (∃ q ∈ δ.fam, q.1 = p.1) ∨ s.gens.size ≤ p.1 := fun p hp => by
      have := bk.new p hp
      rw [low_size] at this
      exact this
    have st' := kept s1 s' H1 δ' wk hz I1 bk
    have nn : ∀ b o, δ'.hp b = some o → Mut (some o) → ∀ o', H b = some o' → Mut (some o') → δ.hp b ≠ none := fun b o h mu o' h' mu' n => by
      have := (bk.fr b o' h' mu' n).2
      rw [h] at this
      cases this
    refine h1 x r' e v u s' H1 δ' gs' ru rx hz' ⟨st', ⟨⟨fun p hp => by rw [wk.heap]; exact z'.hd.own p hp, z'.hd.self, fun p hp => ⟨?_, (z'.hd.fam p hp).2⟩, z'.hd.hp⟩, z'.zz, z'.rdy, (wk.off _ others_g).trans z'.at_⟩, l.con, l.ga, fun b o h mu => ⟨?_, ?_⟩, fun b o h mu n o' h' mu' => ?_, fun p hp => ⟨(l.sepG p hp).1, fun q hq => ?_⟩, ⟨l.gB.1, fun q hq => ?_⟩, l.new, fun q hq => ?_⟩
    · refine Eq.trans ?_ (z'.hd.fam p hp).1
      rcases fin p hp with ⟨q, hq, e⟩ | h
      · exact wk.off _ (e ▸ others_fam hq)
      · exact wk.new _ h
    · refine Classical.byContradiction fun f => ?_
      obtain ⟨o', e1, e2⟩ := mut_of l.st.mr f
      exact nn b o h mu o' e1 e2 (l.hpn e1 e2 (.inl f))
    · cases q : pc b with
      | none => rfl
      | some o' =>
        obtain ⟨a1, _, _⟩ := st'.pc b o' q
        have e1 := (z'.hd.hp b o h).1
        rw [e1] at a1
        cases a1
        obtain ⟨b1, _, _⟩ := l.st.pc b o q
        exact absurd (l.hpn b1 mu (.inr (.inl (by rw [q]; simp)))) (nn b o h mu o b1 mu)
    · obtain ⟨a1, _, _⟩ := l.st.fg b o h mu n
      exact nn b o' h' mu' o a1 mu (l.hpn a1 mu (.inr (.inr ⟨o, h, mu, n⟩)))
    · rcases fin q hq with ⟨q', hq', e⟩ | h
      · rw [← e]; exact (l.sepG p hp).2 q' hq'
      · have := (Array.getElem?_eq_some_iff.mp (l.st.gs p hp).1).1
        omega
    · rcases fin q hq with ⟨q', hq', e⟩ | h
      · rw [← e]; exact l.gB.2 q' hq'
      · have := l.st.gl
        omega
    · rcases fin q hq with ⟨q', hq', e⟩ | h
      · rw [← e]; exact l.famn q' hq'
      · exact .inr (Nat.le_trans l.st.gz h)
end Gz
/-! for within a generator's body: the rules -/
namespace Gz
open PySem PySem.Spec PyProof.Rows L2 GenW Dz

section
variable {B : Gb}
def gForGL (g : DG) (tb : DGn) (E : GE) : List D → List D → Ev → Sg → Prop
  | [], out, env, M => E.nx out env M
  | x :: xs, out, env, M => g x env M fun env' M' => tb { E with nx := gForGL g tb E xs, ct := gForGL g tb E xs, bk := E.nx } out env' M'
def gForG (tx : DGx) (g : DG) (tb : DGn) : DGn := fun E out env M => tx env M fun xs M1 => gForGL g tb E xs out env M1
theorem con_re {τ τ' : Tau} {ip : List (Addr × Obj)} {G : Gk} (c : Con (B.X τ.s τ.H) ip G) (nn : B.G.n ≤ G.n) (os : B.G.os = G.os) (os' : τ'.s.os = B.G.os) : Con (B.X τ'.s τ'.H) ip G :=
  ⟨c.P, c.w, c.K, c.mg, c.base, c.A, c.stk, os'.trans os, Nat.le_trans (trunc_size _ _) nn, c.loc, c.cell, c.pin, c.gen⟩
theorem go_gen {M : Model} {A : Around} {E : Value → Shared → Prop} {s : Shared} {tg : Expr} {a : Addr} {g : Nat} {u : Value} {Q : Unit → Shared → Prop} (h : s.heap.IsGen a g) (q : Q () s) : wpAny M A (letOwnedTupleGo tg (.ref a) u) Q E s := by
  obtain ⟨o, nm, qn, ho, hc, hd, _⟩ := h
  exact go_of ho hc hd (by decide) q
theorem gs_forG (ok : GbOk B) {k : Nat} {tg e : Expr} {body : List Stmt} {pos : Pos} {tx : DGx} {g : DG} {tb : DGn} (he : ∀ s H, PGn (B.X s H) k e tx) (hr : Room (k + 1) (B.G.A.deeper B.env)) (hgd : (B.G.A.deeper B.env).guards = some []) (hg : ∀ s H, PDG (B.X s H) tg g) (hb : GSs B body tb)
    (hs : ∀ x, foldedSetIterable e B.env x = pure x := by intro _; rfl) : GS B (.For tg e body [] pos) (gForG tx g tb) := ⟨fun τ out c fs Kc J gd lv ip sl pc s σ H M env E at_ kt z ht => by
  have loop : ∀ (G : Gk), B.G.n < G.n → B.G.os = G.os → B.G.K = G.K → ∀ (p : Pos) (rest : List D) (τ : Tau) (out : List D) (s : Shared) (σ : L2.St) (H : Hp) (M : Sg) (env : Ev) (δ : Dl) (gs : GenState), Lp B τ ip sl pc σ H M env s G rest δ gs → gForGL g tb E rest out env M →
      Sf (model B.G.P B.G.w) B.G.A (EndF B.G out τ.δ τ.s τ.H) (.forLoop tg (.ref G.a) body [] B.env) ((model B.G.P B.G.w).den (.forLoop tg (.ref G.a) body [] B.env)) (.ret (back B.env Kc J gd lv) none (gd false) (lv []) c p [] :: fs) s := by
    intro G nn oo kk p rest
    induction rest with
    | nil =>
      intro τ out s σ H M env δ gs l q
      have a2 := at_.loop (k := back B.env Kc J gd lv) (c' := .forLoop tg (.ref G.a) body [] B.env) (l := lv []) (kp := []) (p := p) rfl rfl
      refine sf_turn ?_
      rw [a2.over]
      refine l.turn ok (fun _ s' H' z' => ?_) fun x r e => nomatch e
      exact sf_leaf (.ok .next) (kt τ out s' σ H' M env .next z' q)
    | cons x rest ih =>
      intro τ out s σ H M env δ gs l q
      have a2 := at_.loop (k := back B.env Kc J gd lv) (c' := .forLoop tg (.ref G.a) body [] B.env) (l := lv []) (kp := []) (p := p) rfl rfl
      refine sf_turn ?_
      rw [a2.over]
      refine l.turn ok (fun e => nomatch e) fun x' r e v u s1 H1 δ1 gs1 ru rx hz l1 => ?_
      cases e
      have hgen := l1.con.gen s1.heap (l1.as.hd.own _ l1.as.hd.self).1
      refine go_gen hgen ?_
      have agr : ∀ b o o', δ1.hp b = some o → pc b = some o' → o' = o := fun b o o' h1 h2 => by
        have e1 := (l1.as.hd.hp b o h1).1
        have e2 := (l1.st.pc b o' h2).1
        rw [e1] at e2
        exact (Option.some.inj e2).symm
      have z1 : Stt B τ (ip ++ δ1.own) (sl ++ (G.g, gs1) :: δ1.fam) (hor pc δ1.hp) σ H1 M env s1 := by
        refine l1.st.more (fun p hp => ?_) (fun p hp => ?_) (fun p hp => ?_) (fun b o h => ?_) fun b o h mu n => ?_
        · obtain ⟨p1, p2, p3, p4⟩ := l1.as.hd.own p hp
          have lt : B.G.n < p.1 := Nat.lt_of_lt_of_le nn p3
          exact ⟨p1, p2, Nat.ne_of_gt lt, fun q => absurd (Nat.lt_trans (ok.frn _ q) lt) (Nat.lt_irrefl _), p4, Nat.le_of_lt lt⟩
        · rcases List.mem_cons.mp hp with rfl | hp
          · exact ⟨l1.as.at_, hz, Ne.symm l1.gB.1⟩
          · obtain ⟨f1, f2, _⟩ := l1.as.hd.fam p hp
            exact ⟨f1, f2, l1.gB.2 p hp⟩
        · rcases List.mem_cons.mp hp with rfl | hp
          · exact l1.new
          · exact l1.famn p hp
        · obtain ⟨h1, h2⟩ := l1.as.hd.hp b o h
          exact ⟨h1, h2, fun mu => (l1.sepM b o h mu).1⟩
        · cases q' : δ1.hp b with
          | none => rfl
          | some o' =>
            have e1 := (l1.as.hd.hp b o' q').1
            rw [(l1.st.fg b o h mu n).1] at e1
            cases e1
            exact absurd mu (l1.sepF b o h mu n o q')
      have q : g x env M fun env' M' => tb { E with nx := gForGL g tb E rest, ct := gForGL g tb E rest, bk := E.nx } out env' M' := q
      refine wpAny_mono (wp_calm (R := fun _ s' => ∃ σ' H' M' env', Stt B τ (ip ++ δ1.own) (sl ++ (G.g, gs1) :: δ1.fam) (hor pc δ1.hp) σ' H' M' env' s' ∧ tb { E with nx := gForGL g tb E rest, ct := gForGL g tb E rest, bk := E.nx } out env' M') z1
        (fun s2 I2 _ => (hg τ.s τ.H).run _ s2 σ H1 u v (fun σ' H' => ∃ env' M', REnv B.G.K H' env' σ' ∧ MRep B.G.K H' M' ∧ Stp H1 M H' M' ∧ tb { E with nx := gForGL g tb E rest, ct := gForGL g tb E rest, bk := E.nx } out env' M') I2 ru ⟨x, env, M, _, by show Rep B.G.K H1 x u; rw [kk]; exact rx, z1.ev, z1.mr, q, fun env' M' σ' H' q t m r => ⟨env', M', r, m, t, q⟩⟩)
        fun _ s2 s' ⟨σ', H', I', env', M', r', m', t', q'⟩ hi hgk hzk _ => ⟨σ', H', M', env', z1.step (hi _ _ I') r' m' t' hgk hzk, q'⟩) (fun _ s' ⟨σ', H', M', env', z', q'⟩ J' => ?_) fun _ _ q => q.elim
      refine hb.run τ out _ _ _ J' id id _ _ _ s' σ' H' M' env' { E with nx := gForGL g tb E rest, ct := gForGL g tb E rest, bk := E.nx } a2 (fun τ2 out2 s2 σ2 H2 M2 env2 f z2 q2 => ?_) z' q'
      have again : gForGL g tb E rest out2 env2 M2 → Sf (model B.G.P B.G.w) B.G.A (EndF B.G out2 τ2.δ τ2.s τ2.H) (.forLoop tg (.ref G.a) body [] B.env) (.pure (.again (.forLoop tg (.ref G.a) body [] B.env))) (.ret (back B.env Kc J gd lv) none (gd false) (lv []) c p [] :: fs) s2 := fun q2 => by
        refine sf_again rfl (ih τ2 out2 s2 σ2 H2 M2 env2 δ1 gs1 ⟨z2.less l1.st.self, ⟨⟨fun p hp => ?_, l1.as.hd.self, fun p hp => ⟨(z2.gs p (List.mem_append_right _ (List.mem_cons_of_mem _ hp))).1, (l1.as.hd.fam p hp).2⟩, fun b o h => ?_⟩, l1.as.zz, l1.as.rdy, (z2.gs (G.g, gs1) (List.mem_append_right _ List.mem_cons_self)).1⟩, con_re l1.con (Nat.le_of_lt nn) oo z2.os, l1.ga, fun b o h mu => ?_, fun b o h mu n o' h' mu' => ?_, l1.sepG, l1.gB, z2.slf (G.g, gs1) (List.mem_append_right _ List.mem_cons_self), fun q hq => z2.slf q (List.mem_append_right _ (List.mem_cons_of_mem _ hq))⟩ q2)
        · obtain ⟨p1, p2, _⟩ := z2.inv.pin p (List.mem_append_right _ (List.mem_append_right _ hp))
          exact ⟨p1, p2, (l1.as.hd.own p hp).2.2⟩
        · refine ⟨?_, (l1.as.hd.hp b o h).2⟩
          cases e : pc b with
          | none => exact (z2.pc b o (by rw [hor_r e]; exact h)).1
          | some o' => rw [agr b o o' h e] at e; exact (z2.pc b o (hor_l e)).1
        · have e := (l1.sepM b o h mu).2
          exact ⟨(z2.pc b o (by rw [hor_r e]; exact h)).2.2 mu, e⟩
        · have e := (hor_none.mp (z2.fg b o h mu n).2.2).2
          rw [h'] at e
          cases e
      cases f with
      | next => exact again q2
      | cont => exact again q2
      | brk => exact sf_leaf (.ok .next) (kt τ2 out2 s2 σ2 H2 M2 env2 .next (z2.less l1.st.self) q2)
      | ret u2 => exact sf_leaf (.ok (.ret u2)) (kt τ2 out2 s2 σ2 H2 M2 env2 (.ret u2) (z2.less l1.st.self) q2)
  refine sf_For ?_ hs
  rw [at_.over]
  refine wpAny_mono (wp_calm (R := fun u s' => ∃ G xs δ gs H' M', u = .ref G.a ∧ B.G.n < G.n ∧ B.G.os = G.os ∧ B.G.K = G.K ∧ Lp B τ ip sl pc σ H' M' env s' G xs δ gs ∧ gForGL g tb E xs out env M') z
    (Q := fun u s' => ∃ sc H1 xs, Inv (B.X τ.s τ.H) ip σ H1 sc ∧ Made B.G.P B.G.w B.G.K B.G.mg B.G.base k (B.env :: B.G.outer) sc H1 xs u s' ∧ (∃ M', Stp H M H1 M' ∧ MRep B.G.K H1 M' ∧ gForGL g tb E xs out env M') ∧ s.gens.size ≤ sc.gens.size)
    (fun s1 I1 e1 => wpAny_mono ((he τ.s τ.H).run ip s1 σ H (fun xs H' => ∃ M', Stp H M H' M' ∧ MRep B.G.K H' M' ∧ gForGL g tb E xs out env M') I1 ⟨env, M, _, z.ev, z.mr, ht, fun xs M' H' q t m => ⟨M', t, m, q⟩⟩)
      (fun u s' ⟨sc, H1, xs, a1, a2, a3, a4⟩ => ⟨sc, H1, xs, a1, a2, a3, by rw [← e1]; exact a4⟩) fun _ _ q => q)
    fun u s1 s' ⟨sc, H1, xs, Isc, hm, ⟨M', t', m', q'⟩, hsz⟩ hi hgk hzk wk => ?_) (fun u s' ⟨G, xs, δ, gs, H', M', e, nn, oo, kk, l, q⟩ => ?_) fun _ _ q => q
  · obtain ⟨G, δ, gs, e, ga, bg⟩ := hm.start (X := B.X τ.s τ.H) (N := s.gens.size) hr.in1 hgd rfl Isc hsz
    have nn : B.G.n < G.n := bg.nlt
    refine ⟨G, xs, δ, gs, H1, M', e, nn, z.os.symm.trans bg.con.os, bg.con.K, ⟨z.step (hi _ _ bg.inv) (z.ev.ext t'.ext) m' t' hgk hzk, ⟨⟨fun p hp => by rw [wk.heap]; exact bg.sl.hd.own p hp, bg.sl.hd.self, (fun p hp => by rw [bg.fam] at hp; cases hp), bg.sl.hd.hp⟩, bg.sl.zz, bg.sl.rdy, (wk.new _ bg.new).trans bg.sl.at_⟩, bg.con, ga, fun b o h mu => absurd mu (bg.hp b o h), fun b o _ _ _ o' h' => bg.hp b o' h', fun p hp => ⟨?_, (fun q hq => by rw [bg.fam] at hq; cases hq)⟩, ⟨?_, (fun q hq => by rw [bg.fam] at hq; cases hq)⟩, .inr (Nat.le_trans z.gz bg.new), (fun q hq => by rw [bg.fam] at hq; cases hq)⟩, q'⟩
    · have h1 := (Array.getElem?_eq_some_iff.mp (z.gs p hp).1).1
      have h2 := bg.new
      omega
    · have h1 := z.gl
      have h2 := bg.new
      omega
  · subst e
    exact wpAny_pyIter_gen (l.con.gen s'.heap (l.as.hd.own _ l.as.hd.self).1) fun p => loop G nn oo kk p xs τ out s' σ H' M' env δ gs l q⟩
end
end Gz
/-! consumers of generators: for, list -/
namespace Gz
open PySem PySem.Spec PyProof.Rows L2 GenW Dz

/-- an exception's promise does not ask what sleeps -/
def XeU (X : Cx) : Prop := ∀ (Z : Zm) (s1 : Shared) (e : Value), Zok Z s1 → (∀ i st, Z i = some st → st.bare = true) → X.xe e s1 → X.xe e (un Z s1)
theorem zOf_bare {S : Nat → Bool} {s : Shared} (h : AllBare s.gens) : ∀ i st, zOf S s i = some st → st.bare = true := fun i st q => by
  unfold zOf at q
  split at q
  · rename_i e
    split at q
    · cases q
      exact h _ (Array.mem_iff_getElem?.mpr ⟨i, e⟩)
    · cases q
  · cases q
section
variable {X : Cx}
theorem wp_lowX {pins : List (Addr × Obj)} {σ : L2.St} {H : Hp} {s : Shared} {α : Type} {m : Sem α} {Q R : α → Shared → Prop} (hx : XeU X) (I : Inv X pins σ H s) (h : ∀ s1, Inv X pins σ H s1 → wpAny (model X.prog X.w) X.A m Q X.xe s1)
    (hq : ∀ a s1 s', Q a s1 → (∀ σ' H', Inv X pins σ' H' s1 → Inv X pins σ' H' s') → (∀ (i : Nat) st, s.gens[i]? = some st → isSusp st → s'.gens[i]? = some st) → R a s') : wpAny (model X.prog X.w) X.A m R X.xe s := by
  refine wpAny_mono (wpAny_low (S := fun _ => true) (fun _ _ q => nomatch q) (h (low (fun _ => true) s) (inv_gens I rfl rfl (low_bare I.bare)))) (fun a s' ⟨s1, wk, q⟩ => ?_) fun e s' ⟨s1, wk, e1, ok, q⟩ => ?_
  · exact hq a s1 s' q (fun σ' H' I' => inv_gens I' wk.heap wk.os (wk.bare I.bare I'.bare)) fun i st h1 h2 => wk.sleep i st rfl h1 h2
  · rw [e1]
    exact hx _ _ _ ok (zOf_bare I.bare) q
theorem Sl.keep {G : Gk} {out : List D} {δ : Dl} {gs : GenState} {s s' : Shared} {H H' : Hp} {M M' : Sg} (z : Sl G out δ gs s H) (hz : isZ gs) (ho : ∀ p ∈ δ.own, s'.heap.get? p.1 = some p.2 ∧ H' p.1 = none) (hg : ∀ (i : Nat) st, s.gens[i]? = some st → isSusp st → s'.gens[i]? = some st) (t : Stp H M H' M') (sep : ∀ b o, δ.hp b = some o → Mut (some o) → Off M b) :
    Sl G out δ gs s' H' ∧ ∀ b o, δ.hp b = some o → Mut (some o) → Off M' b := by
  have key : ∀ b o, δ.hp b = some o → H' b = some o ∧ (Mut (some o) → Off M' b) := fun b o h => kd_stp t (z.hd.hp b o h).1 (z.hd.hp b o h).2 (sep b o h)
  exact ⟨⟨⟨fun p hp => ⟨(ho p hp).1, (ho p hp).2, (z.hd.own p hp).2.2⟩, z.hd.self, fun p hp => ⟨hg _ _ (z.hd.fam p hp).1 (z.hd.fam p hp).2.1.susp, (z.hd.fam p hp).2⟩, fun b o h => ⟨(key b o h).1, (z.hd.hp b o h).2⟩⟩, z.zz, z.rdy, hg _ _ z.at_ hz.susp⟩, fun b o h => (key b o h).2⟩
/-- what a turn leaves of its consumer's deep state -/
theorem Bk.deep {G : Gk} {δ δ' : Dl} {s s1 : Shared} {H H1 : Hp} {M : Sg} (b : Bk G δ s H s1 H1 δ') (m : MRep G.K H M) (sep : ∀ b o, δ.hp b = some o → Mut (some o) → Off M b) (hd : ∀ b o, δ.hp b = some o → H b = some o) :
    MRep G.K H1 M ∧ (∀ b o, H b = some o → Mut (some o) → ¬ Off M b → H1 b = some o) ∧ ∀ b o, δ'.hp b = some o → Mut (some o) → Off M b := by
  have nn : ∀ c o, H c = some o → Mut (some o) → ¬ Off M c → δ.hp c = none := fun c o h mu f => by
    cases e : δ.hp c with
    | none => rfl
    | some o' =>
      have := hd c o' e
      rw [h] at this
      cases this
      exact absurd (sep c o e mu) f
  have k : ∀ c o, H c = some o → Mut (some o) → ¬ Off M c → H1 c = some o := fun c o h mu f => (b.fr c o h mu (nn c o h mu f)).1
  refine ⟨mrep_keep m b.ext k, k, fun c o h mu => Classical.byContradiction fun f => ?_⟩
  obtain ⟨o', e1, e2⟩ := mut_of m f
  have := (b.fr c o' e1 e2 (nn c o' e1 e2 f)).2
  rw [h] at this
  cases this

def dForGL (g : DG) (tb : DS) (DD : DEnds) : List D → Ev → Sg → Prop
  | [], env, M => DD.nx env M
  | x :: xs, env, M => g x env M fun env' M' => tb { DD with nx := dForGL g tb DD xs, ct := dForGL g tb DD xs, bk := DD.nx } env' M'
def dForG (tx : DGx) (g : DG) (tb : DS) : DS := fun DD env M => tx env M fun xs M1 => dForGL g tb DD xs env M1
/-- at the loop's head: since the start (H0, M0) nothing else has changed -/
structure Ch (K : PySem.W.Frag) (H0 : Hp) (M0 : Sg) (G : Gk) (rest : List D) (δ : Dl) (gs : GenState) (H : Hp) (M : Sg) (s : Shared) : Prop where
  mr : MRep K H M
  stp : Stp H0 M0 H M
  as : Sl G rest δ gs s H
  sep : ∀ b o, δ.hp b = some o → Mut (some o) → Off M b
  nd : ∀ b o, H0 b = some o → Mut (some o) → M0.M b = none → b ∉ M0.pv → δ.hp b = none
theorem Ch.turned {H0 H H1 : Hp} {M0 M : Sg} {G : Gk} {rest r : List D} {δ δ' : Dl} {gs gs' : GenState} {s s1 : Shared} (c : Ch G.K H0 M0 G rest δ gs H M s) (b : Bk G δ s H s1 H1 δ') (z : Sl G r δ' gs' s1 H1) : Ch G.K H0 M0 G r δ' gs' H1 M s1 := by
  obtain ⟨m1, _, sep⟩ := b.deep c.mr c.sep fun b o h => (c.as.hd.hp b o h).1
  exact ⟨m1, ⟨c.stp.ext.trans b.ext, fun x o h1 h2 h3 h4 => let ⟨p, q, r⟩ := c.stp.fr x o h1 h2 h3 h4; ⟨(b.fr x o p h2 (c.nd x o h1 h2 h3 h4)).1, q, r⟩⟩, z, sep, fun x o h1 h2 h3 h4 => (b.fr x o (c.stp.fr x o h1 h2 h3 h4).1 h2 (c.nd x o h1 h2 h3 h4)).2⟩
theorem Ch.ended {H0 H H1 : Hp} {M0 M : Sg} {G : Gk} {rest : List D} {δ δ' : Dl} {gs : GenState} {s s1 : Shared} (c : Ch G.K H0 M0 G rest δ gs H M s) (b : Bk G δ s H s1 H1 δ') : MRep G.K H1 M ∧ Stp H0 M0 H1 M := by
  obtain ⟨m1, _, _⟩ := b.deep c.mr c.sep fun b o h => (c.as.hd.hp b o h).1
  exact ⟨m1, ⟨c.stp.ext.trans b.ext, fun x o h1 h2 h3 h4 => let ⟨p, q, r⟩ := c.stp.fr x o h1 h2 h3 h4; ⟨(b.fr x o p h2 (c.nd x o h1 h2 h3 h4)).1, q, r⟩⟩⟩
theorem Ch.keep {H0 H H1 : Hp} {M0 M M1 : Sg} {G : Gk} {rest : List D} {δ : Dl} {gs : GenState} {s s1 : Shared} (c : Ch G.K H0 M0 G rest δ gs H M s) (hz : isZ gs) (m : MRep G.K H1 M1) (t : Stp H M H1 M1) (ho : ∀ p ∈ δ.own, s1.heap.get? p.1 = some p.2 ∧ H1 p.1 = none) (hg : ∀ (i : Nat) st, s.gens[i]? = some st → isSusp st → s1.gens[i]? = some st) : Ch G.K H0 M0 G rest δ gs H1 M1 s1 := by
  obtain ⟨z, sep⟩ := c.as.keep hz ho hg t c.sep
  exact ⟨m, c.stp.trans t, z, sep, c.nd⟩
theorem Ch.begin {pins : List (Addr × Obj)} {σ : L2.St} {H : Hp} {M : Sg} {s : Shared} {G : Gk} {xs : List D} {δ : Dl} {gs : GenState} {N : Nat} (b : Begun X pins σ H s G xs δ gs N) (m : MRep G.K H M) : Ch G.K H M G xs δ gs H M s :=
  ⟨m, .refl _ _, b.sl, fun b' o h mu => absurd mu (b.hp b' o h), fun b' o h mu _ _ => by
    cases e : δ.hp b' with
    | none => rfl
    | some o' =>
      have := (b.sl.hd.hp b' o' e).1
      rw [h] at this
      cases this
      exact absurd mu (b.hp b' o e)⟩
theorem own_pins {pins : List (Addr × Obj)} {σ : L2.St} {H : Hp} {s : Shared} {G : Gk} {r : List D} {δ : Dl} {gs : GenState} (I : Inv X pins σ H s) (c : Con X pins G) (z : Sl G r δ gs s H) : Inv X (pins ++ δ.own) σ H s :=
  I.pins_of fun p hp => (List.mem_append.mp hp).elim (fun q => I.pin p (List.mem_append_right _ q)) fun q => by
    obtain ⟨a1, a2, a3, a4⟩ := z.hd.own p q
    refine ⟨a1, a2, Nat.ne_of_gt (Nat.lt_of_lt_of_le c.loc a3), fun hb => ?_, a4⟩
    obtain ⟨_, o, ho, _⟩ := I.ok.funs.mem hb
    exact absurd (Nat.lt_of_lt_of_le (Nat.lt_of_lt_of_le (Heap.lt_size ho) c.s0) a3) (Nat.lt_irrefl _)
theorem pds_forG {k : Nat} {tg e : Expr} {body : List Stmt} {pos : Pos} {tx : DGx} {g : DG} {tb : DS} (hx : XeU X) (hp : PassesOwn (model X.prog X.w) X.A X.env X.xe) (hc : X.calm = true) (he : PGn X k e tx) (hr : Room (k + 1) X.A) (hgd : X.A.guards = some []) (hg : PDG X tg g) (hb : PDSs X body tb)
    (hs : ∀ x, foldedSetIterable e X.env x = pure x := by intro _; rfl) : PDS X (.For tg e body [] pos) (dForG tx g tb) := by
  refine ⟨fun pins s σ H D I ⟨env, M, DD, h1, h2, h3, h4⟩ => ?_⟩
  refine wpAny_For (thn (he.run pins s σ H (fun xs H' => ∃ M', Stp H M H' M' ∧ MRep X.K H' M' ∧ dForGL g tb DD xs env M') I ⟨env, M, _, h1, h2, h3, fun xs M' H' q t m => ⟨M', t, m, q⟩⟩) fun u s1 ⟨sc, H1, xs, Isc, hm, ⟨M1, t1, m1, q1⟩, _⟩ => ?_) hs
  obtain ⟨G, δ, gs, rfl, ga, bg⟩ := hm.start (N := 0) hr.in1 hgd rfl Isc (Nat.zero_le _)
  have hK : X.K = G.K := bg.con.K
  refine wpAny_pyIter_gen (bg.con.gen s1.heap (bg.sl.hd.own _ bg.sl.hd.self).1) ?_
  refine codeAny_forLoop_any (fun n s' => ∃ rest δ gs σ' H' env' M', n = rest.length ∧ Inv X pins σ' H' s' ∧ REnv X.K H' env' σ' ∧ Ch G.K H1 M1 G rest δ gs H' M' s' ∧ dForGL g tb DD rest env' M') ?_ xs.length ⟨xs, δ, gs, σ, H1, env, M1, rfl, bg.inv, h1.ext t1.ext, Ch.begin bg (hK ▸ m1), q1⟩
  rintro n s3 ⟨rest, δ, gs, σ3, H3, env3, M3, rfl, I3, r3, c3, q3⟩
  have hd0 : X.A.depth < recursionLimit := by have := hr.dp; omega
  refine wpAny_passesOwn hp (turn (X := X) (E := X.xe) bg.con ga (I.ok.hd hc) hd0 I3 c3.as (fun e s4 H4 δ4 I4 b4 => ?_) fun x r e v u s4 H4 δ4 gs4 ru rx I4 b4 z4 hz4 => ?_)
  · subst e
    obtain ⟨m4, t4⟩ := c3.ended b4
    exact wpAny_execs_nil ⟨σ3, H4, I4, h4.nx env3 M3 σ3 H4 q3 (t1.trans t4) (hK ▸ m4) (r3.ext b4.ext)⟩
  · subst e
    have c4 := c3.turned b4 z4
    refine go_gen (bg.con.gen s4.heap (z4.hd.own _ z4.hd.self).1) ?_
    have I4' := own_pins I4 bg.con z4
    refine wpAny_passesOwn hp (wp_lowX hx I4' (fun sa Ia => hg.run _ sa σ3 H4 u v (fun σ' H' => ∃ env' M', REnv X.K H' env' σ' ∧ MRep X.K H' M' ∧ Stp H4 M3 H' M' ∧ tb { DD with nx := dForGL g tb DD r, ct := dForGL g tb DD r, bk := DD.nx } env' M') Ia ru ⟨x, env3, M3, _, hK ▸ rx, r3.ext b4.ext, hK ▸ c4.mr, q3, fun env' M' σ' H' q t m r => ⟨env', M', r, m, t, q⟩⟩) fun _ sa s5 ⟨σ5, H5, I5, env5, M5, r5, m5, t5, q5⟩ hi hgk => ?_)
    have I5 := hi _ _ I5
    have c5 := c4.keep hz4 (hK ▸ m5) t5 (fun p hp => let z := I5.pin p (List.mem_append_right _ (List.mem_append_right _ hp)); ⟨z.1, z.2.1⟩) hgk
    refine wpAny_passesOwn hp (wp_lowX hx I5 (fun sa Ia => hb.run _ sa σ5 H5 { nx := fun σ' H' => ∃ env' M', REnv X.K H' env' σ' ∧ MRep X.K H' M' ∧ Stp H5 M5 H' M' ∧ dForGL g tb DD r env' M', ct := fun σ' H' => ∃ env' M', REnv X.K H' env' σ' ∧ MRep X.K H' M' ∧ Stp H5 M5 H' M' ∧ dForGL g tb DD r env' M', bk := D.nx, rt := D.rt } Ia
      ⟨env5, M5, _, r5, m5, q5, fun env' M' σ' H' q t m r => ⟨env', M', r, m, t, q⟩, h4.rt.ext ((t1.trans c4.stp).trans t5), h4.nx.ext ((t1.trans c4.stp).trans t5), fun env' M' σ' H' q t m r => ⟨env', M', r, m, t, q⟩⟩) fun f sa s7 q7 hi hgk7 => ?_)
    have again : ∀ {σ7 : L2.St} {H7 : Hp} {env7 : Ev} {M7 : Sg}, Inv X (pins ++ δ4.own) σ7 H7 s7 → REnv X.K H7 env7 σ7 → MRep X.K H7 M7 → Stp H5 M5 H7 M7 → dForGL g tb DD r env7 M7 → ∃ m, m < (x :: r).length ∧ ∃ rest δ gs σ' H' env' M', m = rest.length ∧ Inv X pins σ' H' s7 ∧ REnv X.K H' env' σ' ∧ Ch G.K H1 M1 G rest δ gs H' M' s7 ∧ dForGL g tb DD rest env' M' := fun {σ7 H7 env7 M7} I7 r7 m7 t7 q7 =>
      ⟨r.length, by simp, r, δ4, gs4, σ7, H7, env7, M7, rfl, I7.unpinned, r7, c5.keep hz4 (hK ▸ m7) t7 (fun p hp => let z := I7.pin p (List.mem_append_right _ (List.mem_append_right _ hp)); ⟨z.1, z.2.1⟩) hgk7, q7⟩
    cases f with
    | next => obtain ⟨σ7, H7, I7, env7, M7, r7, m7, t7, q⟩ := q7; exact again (hi _ _ I7) r7 m7 t7 q
    | cont => obtain ⟨σ7, H7, I7, env7, M7, r7, m7, t7, q⟩ := q7; exact again (hi _ _ I7) r7 m7 t7 q
    | brk => obtain ⟨σ7, H7, I7, q⟩ := q7; exact ⟨σ7, H7, (hi _ _ I7).unpinned, q⟩
    | ret v => obtain ⟨x7, σ7, H7, I7, r7, q⟩ := q7; exact ⟨x7, σ7, H7, (hi _ _ I7).unpinned, r7, q⟩
end
end Gz
/-! list of a generator -/
namespace Gz
open PySem PySem.Spec PyProof.Rows L2 GenW Dz

section
variable {X : Cx}
/-- the loop that fills the list -/
theorem drain_step {pins : List (Addr × Obj)} {σ : L2.St} {H0 : Hp} {M0 : Sg} {G : Gk} {A : Around} {R : Result → Shared → Prop} {S : Addr} {res : Value} {all : List D} (con : Con X pins G) (hSn : ∀ p ∈ X.pn ++ pins, p.1 ≠ S) (hSL : S ≠ X.env.locals) (ga : G.A = A.in1.in1) (hh : A.handled = none) (hd : A.depth < recursionLimit)
    (hall : all.length ≤ 1000000)
    (hend : ∀ s' H' us, Inv X pins σ H' s' → H' S = some (.lst us) → Reps G.K H' all us → MRep G.K H' M0 → Stp H0 M0 H' M0 → R (.ok (.ret res)) s') (hO : Off M0 S) :
    ∀ (rest done : List D) (us : List V) (H : Hp) (δ : Dl) (gs : GenState) (s : Shared), all = done ++ rest → Inv X pins σ H s → H S = some (.lst us) → Reps G.K H done us → δ.hp S = none → Ch G.K H0 M0 G rest δ gs H M0 s → (H0 S = none) →
      codeAny (model X.prog X.w) A (.builtin "list.extend.loop" ⟨[.ref S, .ref G.a, res], []⟩) R s := by
  intro rest
  induction rest with
  | nil =>
    intro dn us H δ gs s ea I hS hr hn c h0
    refine codeAny_builtin F.entry_extend_loop ?_
    rw [Around.under_plainId F.plain_extend_loop _]
    show wpAny _ A.in1 (pyNext (.ref G.a) >>= fun r => _) _ _ s
    refine wpAny_bind (turn con (A₀ := A.in1) ga hh hd I c.as (fun _ s1 H1 δ1 I1 b1 => ?_) fun x r e => nomatch e)
    obtain ⟨m1, t1⟩ := c.ended b1
    rw [List.append_nil] at ea
    subst ea
    exact wpAny_pure (hend s1 H1 us I1 (b1.fr S _ hS trivial hn).1 (Reps.ext b1.ext _ _ hr) m1 t1)
  | cons x rest ih =>
    intro dn us H δ gs s ea I hS hr hn c h0
    refine codeAny_builtin F.entry_extend_loop ?_
    rw [Around.under_plainId F.plain_extend_loop _]
    show wpAny _ A.in1 (pyNext (.ref G.a) >>= fun r => _) _ _ s
    refine wpAny_bind (turn con (A₀ := A.in1) ga hh hd I c.as (fun e => nomatch e) fun x' r e v u s1 H1 δ1 gs1 ru rx I1 b1 z1 hz1 => ?_)
    cases e
    have c1 := c.turned b1 z1
    obtain ⟨hS1, hn1⟩ := b1.fr S _ hS trivial hn
    obtain ⟨lu, its, nn, rv, hob⟩ := I1.hok S _ hS1
    have hl1 : us.length < 1000000 := by
      have := congrArg List.length ea
      rw [← hr.len]
      simp only [List.length_append, List.length_cons] at this
      omega
    have hsz : its.toArray.size < sizeLine := by
      rw [List.size_toArray, ← rv.length]
      exact mil1 hl1
    show wpAny _ A.in1 (updateSeq S (·.push v) >>= fun _ => _) _ _ s1
    refine wpAny_bind (wpAny_updateSeq hob rfl (wpAny_pure ⟨plainId_quiet F.plain_extend_loop _, ?_⟩) (Nat.le_of_lt hsz) (by show (its.toArray.push v).size ≤ sizeLine + 1; rw [Array.size_push]; omega))
    have kp : ∀ b o, b ≠ S → s1.heap.get? b = some o → (s1.heap.update S (Obj.mapSeq (·.push v))).get? b = some o := fun b o hb e => (Heap.get?_update_other _ _ (Ne.symm hb)).trans e
    have hnew : (s1.heap.update S (Obj.mapSeq (·.push v))).get? S = some { cls := .type "list", data := .seq (its ++ [v]).toArray (nn + 1) } := by
      rw [Heap.get?_update_self _ hob rfl]
      first
        | rfl
        | simp [Obj.mapSeq]
    have mu : Mut (H1 S) := by rw [hS1]; trivial
    have ex : Ext H1 (upd H1 S (.lst (us ++ [u]))) := .put mu
    have I2 := I1.write (x := S) (e := S) (t' := s1.toks) (o := .lst (us ++ [u])) mu (.inl rfl) kp ⟨_, hnew⟩ ⟨by rw [List.length_append, List.length_singleton]; exact mil1 hl1, its ++ [v], nn + 1, rv.append (.cons ru .nil), hnew⟩
    have no : ∀ b, H1 b = none → b ≠ S := fun b e q => by rw [q, hS1] at e; cases e
    have nh : ∀ b o, δ1.hp b = some o → b ≠ S := fun b o e q => by rw [q, hn1] at e; cases e
    refine ih (dn ++ [x]) (us ++ [u]) _ δ1 gs1 _ (by rw [List.append_assoc]; exact ea) I2 upd_same (Reps.ext ex _ _ ((Reps.ext b1.ext _ _ hr).append ⟨u, [], rfl, rx, rfl⟩)) hn1 ⟨c1.mr.side ex (fun b hb => upd_ne hb) hO.1 hO.2, c1.stp.side ex h0 fun b hb => upd_ne hb, ⟨⟨fun p hp => ?_, z1.hd.self, z1.hd.fam, fun b o e => ⟨(upd_ne (nh b o e)).trans (z1.hd.hp b o e).1, (z1.hd.hp b o e).2⟩⟩, z1.zz, z1.rdy, z1.at_⟩, c1.sep, c1.nd⟩ h0
    obtain ⟨p1, p2, p3⟩ := z1.hd.own p hp
    exact ⟨kp _ _ (no _ p2) p1, (upd_ne (no _ p2)).trans p2, p3⟩
def dListG (tx : DGx) : DA := fun env M R => tx env M fun xs M1 => xs.length ≤ 1000000 ∧ R xs M1
theorem call_listG {pins : List (Addr × Obj)} {σ : L2.St} {H : Hp} {M : Sg} {s : Shared} {k : Nat} {sc : Shared} {xs : List D} {u : Value} {Q : VK} (hc : X.calm = true) (hr : Room (k + 3) X.A) (hgd : X.A.guards = some []) (Isc : Inv X pins σ H sc) (hm : Made X.prog X.w X.K X.mg X.base k X.stack sc H xs u s) (mr : MRep X.K H M) (hl : xs.length ≤ 1000000)
    (hQ : ∀ us H1, Stp H M H1 M → MRep X.K H1 M → Reps X.K H1 xs us → ∀ p, H1 p = none → Q (.ref p) (upd H1 p (.lst us))) : wpAny (model X.prog X.w) X.A (call (.type "list") [u]) (EP X pins σ Q) X.xe s := by
  obtain ⟨G, δ, gs, rfl, ga, bg⟩ := hm.start (N := 0) (A := X.A.in1.in1.in1) (hr.in1.in1.in1) hgd rfl Isc (Nat.zero_le _)
  have hK : X.K = G.K := bg.con.K
  have hg := bg.con.gen s.heap (bg.sl.hd.own _ bg.sl.hd.self).1
  obtain ⟨og, hog, _⟩ := id hg.typeIs
  have hSa : s.heap.objs.size ≠ G.a := Nat.ne_of_gt (Heap.lt_size hog)
  have hS0 : H s.heap.objs.size = none := bg.inv.hok.fresh (Nat.le_refl _)
  have gty : ∀ {h : Heap}, (∀ b o, s.heap.get? b = some o → h.get? b = some o) → h.IsGen G.a G.g := fun {h} q => hg.keeps q
  have up : ∀ (h : Heap) (f : Obj → Obj), (∀ b o, s.heap.get? b = some o → h.get? b = some o) → ∀ b o, s.heap.get? b = some o → (h.update s.heap.objs.size f).get? b = some o := fun h f q b o e => (Heap.get?_update_other _ _ (Nat.ne_of_gt (Heap.lt_size e))).trans (q b o e)
  refine callType_codes (Q₁ := fun ob t1 => ob = .ref s.heap.objs.size ∧ t1 = { s with heap := s.heap.push { cls := .type "list", data := .seq #[] } }) F.called_list (F.typeCall_list_1 _) F.entry_list_init (code_list_new _ ⟨rfl, rfl⟩) fun ob t1 ht => ?_
  obtain ⟨rfl, rfl⟩ := ht
  have e1 : (s.heap.push { cls := .type "list", data := .seq #[] }).get? s.heap.objs.size = some { cls := .type "list", data := .seq #[] } := Heap.get?_push_size _ rfl
  refine ⟨⟨_, e1, rfl⟩, F.args_list_init_2 _ _, ?_⟩
  show wpAny _ X.A.in1.in1 (do let old ← Builtin.List.listItems (.ref s.heap.objs.size); Builtin.List.listUpdate (.ref s.heap.objs.size) (fun _ => #[]); letGo old.toList.reverse; Builtin.List.listExtendWith (.ref s.heap.objs.size) (.ref G.a) .none) _ _ _
  refine wpAny_bind ?_
  unfold Builtin.List.listItems
  refine wpAny_bind (wpAny_seqItems e1 rfl (wpAny_pure ?_))
  show wpAny _ X.A.in1.in1 (updateSeq s.heap.objs.size (fun _ => #[]) >>= fun _ => letGo (#[] : Array Value).toList.reverse >>= fun _ => Builtin.List.listExtendWith (.ref s.heap.objs.size) (.ref G.a) .none) _ _ _
  refine wpAny_bind (wpAny_updateSeq e1 rfl ?_)
  have e2 := Heap.get?_update_self (Obj.mapSeq (fun _ => (#[] : Array Value))) e1 rfl
  refine wpAny_bind (wpAny_letGo ?_)
  unfold Builtin.List.listExtendWith
  have k1 : ∀ b o, s.heap.get? b = some o → (s.heap.push { cls := .type "list", data := .seq #[] }).get? b = some o := fun b o e => Heap.get?_push_of_some _ e
  have k2 := up _ (Obj.mapSeq (fun _ => (#[] : Array Value))) k1
  refine wpAny_bind (wpAny_typeOf ((gty k2).typeIs (s := { s with heap := _ })) ?_)
  have n1 : Builtin.List.listSameRef (.ref s.heap.objs.size) (.ref G.a) = false := by simp [Builtin.List.listSameRef, hSa]
  have n2 : (Value.type "generator" == Value.type "list") = false := by decide
  have n3 : (Value.type "generator" == Value.type "tuple") = false := by decide
  simp only [n1, n2, n3, Bool.or_false, Bool.false_eq_true, if_false]
  refine wpAny_bind (wpAny_pyIter_gen (s := { s with heap := _ }) (gty k2) (wpAny_bind (wpAny_holding ?_)))
  unfold Builtin.List.listLengthHint
  refine wpAny_bind (wpAny_specialOf ((gty k2).typeIs (s := { s with heap := _ })) F.gen_no_len ?_)
  show wpAny _ X.A.in1.in1 (specialOf (Value.ref G.a) (Str.ofString "__length_hint__") >>= fun _ => _) _ _ _
  refine wpAny_bind (wpAny_specialOf ((gty k2).typeIs (s := { s with heap := _ })) F.gen_no_hint (wpAny_pure ?_))
  show wpAny _ X.A.in1.in1 (rule "list.extend.makes-room" >>= fun _ => Builtin.List.listTouch (.ref s.heap.objs.size) >>= fun _ => again (.builtin "list.extend.loop" ⟨[.ref s.heap.objs.size, .ref G.a, .none], []⟩)) _ _ _
  refine wpAny_bind (wpAny_rule (wpAny_bind ?_))
  show wpAny _ X.A.in1.in1 (updateSeq s.heap.objs.size (·.push .none) >>= fun _ => updateSeq s.heap.objs.size (·.pop)) _ _ _
  refine wpAny_bind (wpAny_updateSeq e2 rfl ?_)
  have e3 := Heap.get?_update_self (Obj.mapSeq (·.push Value.none)) e2 rfl
  refine wpAny_updateSeq (hz := by seq_fits) e3 rfl ?_
  have e4 := Heap.get?_update_self (Obj.mapSeq (·.pop)) e3 rfl
  have k4 := up _ (Obj.mapSeq (·.pop)) (up _ (Obj.mapSeq (·.push Value.none)) k2)
  refine wpAny_pure ⟨plainId_quiet F.plain_extend_loop _, ?_⟩
  have I4 := bg.inv.laid (a := s.heap.objs.size) (o := .lst []) (t' := s.toks) k4 (Nat.le_refl _) ⟨Nat.zero_le _, [], _, .nil, e4⟩
  have hmM : M.M s.heap.objs.size = none := mr.free hS0
  have hmv : s.heap.objs.size ∉ M.pv := mr.npv hS0
  have neS : ∀ b o, s.heap.get? b = some o → b ≠ s.heap.objs.size := fun b o e => Nat.ne_of_lt (Heap.lt_size e)
  have cb := Ch.begin bg (hK ▸ mr)
  refine drain_step (X := X) (pins := pins) (σ := σ) (H0 := H) (M0 := M) (G := G) (A := X.A.in1) (S := s.heap.objs.size) (all := xs) bg.con (fun p hp => neS _ _ (bg.inv.pin p hp).1) (Nat.ne_of_gt bg.inv.lt) ga (Isc.ok.hd hc) (by have := hr.dp; show X.A.depth < _; omega) hl
    (fun s' H' us I' hS' rs' m' t' => ?_) ⟨hmM, hmv⟩ xs [] [] (upd H s.heap.objs.size (.lst [])) δ gs _ rfl I4 upd_same rfl ?_ ⟨cb.mr.new hS0, .new hS0, ⟨⟨fun p hp => ?_, bg.sl.hd.self, bg.sl.hd.fam, fun b o e => ?_⟩, bg.sl.zz, bg.sl.rdy, bg.sl.at_⟩, cb.sep, cb.nd⟩ hS0
  · have mu : Mut (H' s.heap.objs.size) := by rw [hS']; trivial
    have q := hQ us (hid H' s.heap.objs.size) (t'.side (ext_hid mu) hS0 fun b hb => hid_ne hb) ((hK ▸ m').side (ext_hid mu) (fun b hb => hid_ne hb) hmM hmv) (Reps.ext (ext_hid mu) _ _ (hK ▸ rs')) s.heap.objs.size hid_same
    rw [hid_back hS'] at q
    exact ⟨rfl, .ref s.heap.objs.size, H', I', rfl, q⟩
  · cases e : δ.hp s.heap.objs.size with
    | none => rfl
    | some o => rw [(bg.sl.hd.hp _ o e).1] at hS0; cases hS0
  · obtain ⟨p1, p2, p3⟩ := bg.sl.hd.own p hp
    exact ⟨k4 _ _ p1, (upd_ne (neS _ _ p1)).trans p2, p3⟩
  · obtain ⟨h1, h2⟩ := bg.sl.hd.hp b o e
    exact ⟨(upd_ne (ne_of_none h1 hS0)).trans h1, h2⟩
theorem nl_listG {k : Nat} {e : Expr} {tx : DGx} {nm : Str} {p pos : Pos} (hc : X.calm = true) (he : PGn X k e tx) (hr : Room (k + 3) X.A) (hgd : X.A.guards = some []) (hg : Gl X nm) (hmg : X.mg nm = none) (hv : bootBuiltins nm = some (.type "list")) (hnm : nm ≠ "__name__" := by decide) (hdb : (nm == ("__debug__" : Str)) = false := by decide)
    (hse : starEach [e] X.env = (false, eval e X.env) :: starEach [] X.env := by rfl) : PNL X (.Call (.Name nm p) [e] [] pos) (dListG tx) := by
  refine ⟨fun pins s σ H Q I ⟨env, M, R, h1, h2, h3, h4⟩ => ?_⟩
  refine wpAny_Call_Name_kw (ld_blt I hg hmg hv ?_ hnm hdb)
  refine PyProof.Rows.callWith_type1 ?_ hse rfl
  rw [hse]
  show wpAny _ _ (spliced ((false, eval e X.env) :: backTo pos (starEach [] X.env))) _ _ s
  refine Calls.spliced_cons (thn (he.run pins s σ H (fun xs H' => ∃ M', Stp H M H' M' ∧ MRep X.K H' M' ∧ xs.length ≤ 1000000 ∧ R xs M') I ⟨env, M, _, h1, h2, h3, fun xs M' H' q t m => ⟨M', t, m, q⟩⟩) fun u s1 ⟨sc, H1, xs, Isc, hm, ⟨M1, t1, m1, hl, q1⟩, _⟩ => ?_)
  refine Calls.spliced_nil ?_
  exact call_listG hc hr hgd Isc hm m1 hl fun us H2 t2 m2 r2 p hp => h4 xs M1 us H2 q1 (t1.trans t2) m2 r2 p hp
end
end Gz
/-! name = {..}; generator defs by their bodies -/
namespace Dz
open PySem PySem.Spec PyProof.Rows L2
theorem u1 {k : Nat} {A : Around} (h : Room k A) : A.units + 1 < cLine := by have := h.un; omega
section
variable {X : Cx}
theorem sw_trueD {kx vx : Expr} {gs : List Comprehension} {scope : Scope} {pos py : Pos} {y : Str} {l : Nat} {env : Env} (hk : env.scope.kind = .function) (hy : env.scope.names.lookup y = some .local) (hl : (py.line == pos.line) = true)
    (ha : (scope.names.any fun (n, k) => n == y && (k == .local || k == .cell)) = false) : swapsWith (.DictComp kx vx gs scope pos) (some (.Name y py)) l env = pure true := by
  have e1 : env.kindOf y = some .local := hy
  have e2 : env.blockKind = .function := by unfold Env.blockKind; rw [hk]; rfl
  unfold swapsWith
  simp only [e2, e1, ha, Expr.pos, hl]
  rfl
theorem ps_setDc {i : Nat} {y : Str} {py : Pos} {kx vx tg iter : Expr} {ifs : List Expr} {scope : Scope} {own : List (Str × Nat)} {pos spos : Pos} {wi : TI} {g : TG} {tt : TT} {tk tv : TE} (hc : X.calm = true) (hN : X.N.Nodup) (hy : X.N[i]? = some y) (hyl : X.env.scope.names.lookup y = some .local)
    (hsw : swapsWith (.DictComp kx vx [⟨tg, iter, ifs, 0⟩] scope pos) (some (.Name y py)) spos.line X.env = pure true) (hi : PI X tg iter wi) (ok : BlkOk X.N X.env.scope scope own)
    (hg : ∀ (s : Shared) (H : Hp) (C : Addr) (cl : List (Str × Addr)) (fp : List Addr), PG (X.blk s H scope (compEnvC scope cl C X.env) fp) tg g) (ht : ∀ (s : Shared) (H : Hp) (C : Addr) (cl : List (Str × Addr)) (fp : List Addr), PTs (X.blk s H scope (compEnvC scope cl C X.env) fp) ifs tt)
    (hk : ∀ (s : Shared) (H : Hp) (C : Addr) (cl : List (Str × Addr)) (fp : List Addr), PE (X.blk s H scope (compEnvC scope cl C X.env) fp) kx tk) (he : ∀ (s : Shared) (H : Hp) (C : Addr) (cl : List (Str × Addr)) (fp : List Addr), PE (X.blk s H scope (compEnvC scope cl C X.env) fp) vx tv)
    (hs : ∀ x, foldedSetIterable iter X.env x = pure x := by intro _; rfl) : PS X (.Assign [.Name y py] (.DictComp kx vx [⟨tg, iter, ifs, 0⟩] scope pos) spos) (tAsg (tDc wi g tt tk tv (own.map (·.2))) (L2.gName i)) := by
  refine ⟨fun pins s σ H D I h => ?_⟩
  rw [exec_Assign_Name_used _ _ _ _ hsw]
  refine wpAny_bind (wpAny_standAt (wpAny_bind ?_))
  show wpAny _ X.A (do let _ ← comprehension (.DictComp kx vx [⟨tg, iter, ifs, 0⟩] scope pos) scope X.env (firstIterPos [⟨tg, iter, ifs, 0⟩] pos) newDict false (eval iter X.env) (some (assign (.Name y py) X.env))) _ _ s
  have h : tDc wi g tt tk tv (own.map (·.2)) σ H (fun x H1 => L2.gName i x σ H1 D.nx) := h
  refine wpAny_bind (thn (dc_core (Qf := fun _ s' => SP X pins D .next s') hc hN I hi ok hg ht hk he hs h fun L C s' m H' I' q hn f => ?_) fun _ s' hq => wpAny_pure (wpAny_pure hq))
  show wpAny _ _ (assign (.Name y py) X.env (.ref L)) _ _ _
  refine wpAny_assign_Name (store_ok2 (v := V.ref L) I' hN hy (.inl hyl) rfl (fun s2 I2 ⟨a, sb, ha⟩ => ?_) (.inr hyl))
  obtain ⟨f0, f1, f2, f3, f4, f5⟩ := f
  have ne : C ≠ a := by
    rcases ha with z | z
    · rw [z]; exact f1
    · exact fun e => f4 y a z e.symm
  exact ⟨m, hn.sameBut sb ne, fun h3 sb3 => ⟨_, H', I2.turned (t' := s2.toks) (fun b o hb e => (sb3.2 b hb).trans e) f0 f1 f3 f4 f5, q⟩⟩
theorem pd_setDcM {i : Nat} {y : Str} {py : Pos} {kx vx tg iter : Expr} {ifs : List Expr} {scope : Scope} {own : List (Str × Nat)} {pos spos : Pos} {it : DI} {g : DG} {gv : TG} {tt : DT} {tk tv : DE} (gi : GI X.K g gv) (wi : Wi (own.map (·.2)) gv) (hc : X.calm = true) (hN : X.N.Nodup) (hy : X.N[i]? = some y) (hyl : X.env.scope.names.lookup y = some .local)
    (hsw : swapsWith (.DictComp kx vx [⟨tg, iter, ifs, 0⟩] scope pos) (some (.Name y py)) spos.line X.env = pure true) (hi : PDI X tg iter it) (ok : BlkOk X.N X.env.scope scope own)
    (hg : ∀ (s : Shared) (H : Hp) (C : Addr) (cl : List (Str × Addr)) (fp : List Addr), PG (X.blk s H scope (compEnvC scope cl C X.env) fp) tg gv) (ht : ∀ (s : Shared) (H : Hp) (C : Addr) (cl : List (Str × Addr)) (fp : List Addr), PDTs (X.blk s H scope (compEnvC scope cl C X.env) fp) ifs tt)
    (hk : ∀ (s : Shared) (H : Hp) (C : Addr) (cl : List (Str × Addr)) (fp : List Addr), PD (X.blk s H scope (compEnvC scope cl C X.env) fp) kx tk) (he : ∀ (s : Shared) (H : Hp) (C : Addr) (cl : List (Str × Addr)) (fp : List Addr), PD (X.blk s H scope (compEnvC scope cl C X.env) fp) vx tv)
    (hs : ∀ x, foldedSetIterable iter X.env x = pure x := by intro _; rfl) : PDS X (.Assign [.Name y py] (.DictComp kx vx [⟨tg, iter, ifs, 0⟩] scope pos) spos) (dSet i (dDM (dDc it g tt tk tv (own.map (·.2))))) :=
  ps_imp (ps_setDc hc hN hy hyl hsw hi ok hg ht hk he hs) fun D σ H ⟨env, s, DD, h1, h2, h3, h4⟩ => dc_imp gi wi σ H _ ⟨env, s, _, h1, h2, h3, fun ks ws s1 vs H1 q e m r l nd p hp =>
    h4.nx _ _ _ _ (q nd (l.trans r.len.symm) p (m.free hp)) (e.trans (.put (.inl hp))) (m.write (.inl hp) (fun _ => nofun) ⟨vs, upd_same, l, Reps.ext (.new hp) _ _ r⟩) (((h1.ext e.ext).ext (.new hp)).set i rfl)⟩
end
end Dz
namespace Gz
open PySem PySem.Spec PyProof.Rows L2 GenW Dz
section
variable {P : Program} {w : World} {K : PySem.W.Frag} {mg : Str → Option Value} {base : Heap} {k : Nat} {f : Addr} {fd : FuncData} {x qual : Str} {params : Arguments} {body : List Stmt} {scope : Scope} {kws : List (Str × V)} {N ps : List Str} {sp : SpGD} {tg : DGn}
theorem gdf_of (F : FunD K x qual params body scope [] kws f fd) (S : GSc N ps scope) (hm : mg x = some (.ref f)) (hb : Binds K fd ps [])
    (hbody : ∀ (B : Gb), B.G.P = P → B.G.w = w → B.G.K = K → B.G.mg = mg → B.G.base = base → B.N = N → B.qual = qual → B.scope = scope → GbOk B → Room k (B.G.A.deeper B.env) → (B.G.A.deeper B.env).guards = some [] → GSs B body tg)
    (sem : ∀ ws out, sp ws out → ws.length = ps.length ∧ tg { nx := fun o _ _ => o = [], rt := fun o w _ => o = [] ∧ w = .non } out (startD N ws) M0) : GDf P w K mg base (k + 1) x ps sp := ⟨f, fd, hm, F.kp, hb, gfn_of F S hbody sem⟩
theorem gdf_false (F : FunD K x qual params body scope [] kws f fd) (hm : mg x = some (.ref f)) (hb : Binds K fd ps []) (no : ∀ ws out, ¬ sp ws out) : GDf P w K mg base k x ps sp := ⟨f, fd, hm, F.kp, hb, ⟨fun ws out h => (no ws out h).elim, fun _ _ _ _ _ _ _ ws out _ _ _ _ _ _ h => (no ws out h).elim⟩⟩
theorem GDf.mono {j : Nat} (F : GDf P w K mg base j x ps sp) (h : j ≤ k) : GDf P w K mg base k x ps sp := by
  obtain ⟨f, fd, a, b, c, d⟩ := F.ex
  exact ⟨f, fd, a, b, c, ⟨d.len, fun A outer s H args us vs ws out hr hg he hb hv rw' hs => codeAny_mono (d.run A outer s H args us vs ws out (hr.mono h) hg he hb hv rw' hs) fun r s' ⟨u, e, hm⟩ => ⟨u, e, hm.mono h⟩⟩⟩
end
end Gz
/-! repr of any data -/
namespace Dz
open PySem PySem.Spec PyProof.Rows L2
mutual
def lfs : D → Prop
  | .int i => i.natAbs < 10 ^ 60
  | .tup ws => lfss ws
  | .lst ws => lfss ws
  | _ => True
def lfss : List D → Prop
  | [] => True
  | w :: ws => lfs w ∧ lfss ws
end
mutual
def wgt : D → Nat
  | .str x => x.length
  | .tup ws => wgts ws
  | .lst ws => wgts ws
  | _ => 0
def wgts : List D → Nat
  | [] => 0
  | w :: ws => wgt w + 1 + wgts ws
end
theorem shown_int60 {i : Int} (h : i.natAbs < 10 ^ 60) : (PyData.shown (.int i)).length ≤ 61 := by
  have e := int_text_length_le10 (k := 60) (by decide) h
  show (Str.ofString (toString i)).length ≤ 61
  rw [PySem.ofString_length]; exact e
theorem log60 {n : Nat} (h : n < 10 ^ 60) : n.log2 < 1920 := by
  by_cases h0 : n = 0
  · subst h0; decide
  · exact Nat.lt_of_lt_of_le ((Nat.log2_lt h0).mpr (Nat.lt_trans h (show 10 ^ 60 < 2 ^ 200 by decide))) (by decide)
mutual
theorem show_fit : ∀ (w : D) (n : Nat), fit w n → lfs w → (pyD w).showable = true ∧ (pyD w).intsShort 61 = true ∧ (pyD w).bulk = wgt w
  | .non, n, h, g => ⟨rfl, rfl, rfl⟩
  | .bl _, n, h, g => ⟨rfl, rfl, rfl⟩
  | .int i, n, h, g => by
    have g' : i.natAbs < 10 ^ 60 := g
    refine ⟨?_, ?_, rfl⟩
    · show decide _ = true
      exact decide_eq_true (log60 g')
    · show decide _ = true
      exact decide_eq_true (shown_int60 g')
  | .str x, n, h, g => ⟨rfl, rfl, rfl⟩
  | .tup ws, n, h, g => by
    have h' : 0 < n ∧ ws.length ≤ 100000 ∧ fits ws (n - 1) := h
    obtain ⟨e, _, _⟩ := fits_py ws (n - 1) h'.2.2
    have e2 : toPy (.tup ws) = some (.tuple (pyDs ws)) := by rw [toPy, e]; rfl
    have e3 : pyD (.tup ws) = .tuple (pyDs ws) := by rw [pyD, e2]; rfl
    rw [e3]
    exact shows_fit ws (n - 1) h'.2.2 g
  | .lst ws, n, h, g => by
    have h' : 0 < n ∧ ws.length ≤ 100000 ∧ fits ws (n - 1) := h
    obtain ⟨e, _, _⟩ := fits_py ws (n - 1) h'.2.2
    have e2 : toPy (.lst ws) = some (.list (pyDs ws)) := by rw [toPy, e]; rfl
    have e3 : pyD (.lst ws) = .list (pyDs ws) := by rw [pyD, e2]; rfl
    rw [e3]
    exact shows_fit ws (n - 1) h'.2.2 g
  | .dic _ _, n, h, g => h.elim
  | .ref _, n, h, g => h.elim
  | .ty _, n, h, g => h.elim
  | .exc _ _ _ _, n, h, g => h.elim
theorem shows_fit : ∀ (ws : List D) (n : Nat), fits ws n → lfss ws → PyData.showableAll (pyDs ws) = true ∧ PyData.intsShortAll 61 (pyDs ws) = true ∧ PyData.bulkAll (pyDs ws) = wgts ws
  | [], n, h, g => ⟨rfl, rfl, rfl⟩
  | w :: ws, n, h, g => by
    have h' : fit w n ∧ fits ws n := h
    have g' : lfs w ∧ lfss ws := g
    obtain ⟨e1, _, _⟩ := fit_py w n h'.1
    obtain ⟨e2, _, _⟩ := fits_py ws n h'.2
    have e3 : toPys (w :: ws) = some (pyD w :: pyDs ws) := by rw [toPys, e1, e2]; rfl
    have e4 : pyDs (w :: ws) = pyD w :: pyDs ws := by rw [pyDs, e3]; rfl
    obtain ⟨a1, a2, a3⟩ := show_fit w n h'.1 g'.1
    obtain ⟨b1, b2, b3⟩ := shows_fit ws n h'.2 g'.2
    rw [e4]
    refine ⟨?_, ?_, ?_⟩
    · show (PyData.showable _ && PyData.showableAll _) = true
      rw [a1, b1]; rfl
    · show (PyData.intsShort _ _ && PyData.intsShortAll _ _) = true
      rw [a2, b2]; rfl
    · show PyData.bulk _ + 1 + PyData.bulkAll _ = wgt w + 1 + wgts ws
      rw [a3, b3]
end
def isSeqD : D → Bool
  | .tup _ => true
  | .lst _ => true
  | _ => false
/-- what repr can show -/
structure Rpt (w : D) : Prop where
  n : ∃ n, fit w n ∧ n ≤ 60
  d : isSeqD w = true
  l : lfs w
  w : wgt w ≤ 15000
theorem rRepr_of {w : D} {s : Sg} {R : KD} (h : Rpt w) (q : R (.str (pyD w).shown) s) : rRepr [w] s R := by
  obtain ⟨n, f, hn⟩ := h.n
  obtain ⟨e, c, d⟩ := fit_py w n f
  obtain ⟨a1, a2, a3⟩ := show_fit w n f h.l
  have l := PyData.shown_le_bulk 61 (by decide) (pyD w) (PyData.leavesShort_of_canLay0 61 _ c a2)
  have hw := h.w
  rw [a3] at l
  have p := pyOf_fit (s := s) f
  unfold rRepr
  dsimp only
  rw [p]
  refine ⟨?_, a1, by omega, by omega, q⟩
  have hd := h.d
  cases w with
  | tup ws =>
    have f' : 0 < n ∧ ws.length ≤ 100000 ∧ fits ws (n - 1) := f
    obtain ⟨e, _, _⟩ := fits_py ws (n - 1) f'.2.2
    have e2 : toPy (.tup ws) = some (.tuple (pyDs ws)) := by rw [toPy, e]; rfl
    have e3 : pyD (.tup ws) = .tuple (pyDs ws) := by rw [pyD, e2]; rfl
    rw [e3]; rfl
  | lst ws =>
    have f' : 0 < n ∧ ws.length ≤ 100000 ∧ fits ws (n - 1) := f
    obtain ⟨e, _, _⟩ := fits_py ws (n - 1) f'.2.2
    have e2 : toPy (.lst ws) = some (.list (pyDs ws)) := by rw [toPy, e]; rfl
    have e3 : pyD (.lst ws) = .list (pyDs ws) := by rw [pyD, e2]; rfl
    rw [e3]; rfl
  | _ => cases hd
theorem lfss_of : ∀ {ws : List D}, (∀ w ∈ ws, lfs w) → lfss ws
  | [], _ => trivial
  | w :: ws, h => ⟨h w List.mem_cons_self, lfss_of fun u hu => h u (List.mem_cons_of_mem _ hu)⟩
theorem wgts_le {b : Nat} : ∀ {ws : List D}, (∀ w ∈ ws, wgt w ≤ b) → wgts ws ≤ ws.length * (b + 1)
  | [], _ => Nat.zero_le _
  | w :: ws, h => by
    have h1 := h w List.mem_cons_self
    have h2 := wgts_le fun u hu => h u (List.mem_cons_of_mem _ hu)
    show wgt w + 1 + wgts ws ≤ _
    rw [List.length_cons, Nat.succ_mul]
    omega
theorem lfs_tr : ∀ t : Tr, lfs t.d
  | .nil => trivial
  | .node l a r => ⟨lfs_tr l, trivial, lfs_tr r, trivial⟩
theorem wgt_tr : ∀ t : Tr, wgt t.d = 4 * t.size
  | .nil => rfl
  | .node l a r => by
    show wgt l.d + 1 + (1 + 1 + (wgt r.d + 1 + 0)) = _
    rw [wgt_tr l, wgt_tr r]
    simp only [Tr.size]; omega
end Dz
/-! instances of own classes: attributes by place -/
namespace Dz
open PySem PySem.Spec PyProof.Rows L2
def insO (C : Addr) (NS : List Str) (ws : List D) : MO := .ins C (NS.take ws.length) ws
def insM (C : Addr) (NS : List Str) : Option MO → Option (List D)
  | some (.ins C' ns ws) => if C' = C ∧ ns = NS.take ws.length ∧ ws.length ≤ NS.length then some ws else none
  | _ => none
theorem insM_ok {C : Addr} {NS : List Str} {ws : List D} (h : ws.length ≤ NS.length) : insM C NS (some (insO C NS ws)) = some ws := by
  simp [insM, insO, h]
theorem insM_inv {C : Addr} {NS : List Str} {o : Option MO} {ws : List D} (h : insM C NS o = some ws) : o = some (insO C NS ws) ∧ ws.length ≤ NS.length := by
  unfold insM at h
  split at h
  · rename_i C' ns ws'
    split at h
    · rename_i e
      cases h
      obtain ⟨rfl, rfl, l⟩ := e
      exact ⟨rfl, l⟩
    · cases h
  · cases h
theorem lookup_take {α : Type} : ∀ {NS : List Str} {vs : List α} {i : Nat} {f : Str}, NS.Nodup → NS[i]? = some f → vs.length ≤ NS.length → ((NS.take vs.length).zip vs).lookup f = vs[i]?
  | [], _, _, _, _, h, _ => by simp at h
  | g :: NS, [], i, f, _, _, _ => by simp
  | g :: NS, v :: vs, 0, f, nd, h, _ => by
    simp at h
    subst h
    simp
  | g :: NS, v :: vs, i + 1, f, nd, h, hl => by
    have hm : f ∈ NS := List.mem_of_getElem? (by simpa using h)
    have ne : (f == g) = false := by
      rw [beq_eq_false_iff_ne]
      exact fun e => (List.nodup_cons.mp nd).1 (e ▸ hm)
    simp only [List.length_cons, List.take_succ_cons, List.zip_cons_cons, List.lookup_cons, ne, List.getElem?_cons_succ]
    exact lookup_take (List.nodup_cons.mp nd).2 (by simpa using h) (by simpa using hl)
theorem lookup_not {α : Type} : ∀ {ns : List Str} {vs : List α} {f : Str}, f ∉ ns → (ns.zip vs).lookup f = none
  | [], _, _, _ => by simp
  | g :: ns, [], _, _ => by simp
  | g :: ns, v :: vs, f, h => by
    have ne : (f == g) = false := by
      rw [beq_eq_false_iff_ne]
      exact fun e => h (e ▸ List.mem_cons_self)
    simp only [List.zip_cons_cons, List.lookup_cons, ne]
    exact lookup_not fun q => h (List.mem_cons_of_mem _ q)
def iput {α : Type} (ws : List α) (i : Nat) (w : α) : List α := if i < ws.length then ws.set i w else ws ++ [w]
theorem iput_len {α : Type} {ws : List α} {i : Nat} {w : α} : (iput ws i w).length = if i < ws.length then ws.length else ws.length + 1 := by
  unfold iput; split <;> simp
theorem putF_take : ∀ {NS : List Str} {vs : List V} {i : Nat} {f : Str} {v : V}, NS.Nodup → NS[i]? = some f → i ≤ vs.length → vs.length ≤ NS.length → putF f v ((NS.take vs.length).zip vs) = (NS.take (iput vs i v).length).zip (iput vs i v)
  | [], _, _, _, _, _, h, _, _ => by simp at h
  | g :: NS, [], i, f, v, nd, h, hi, _ => by
    have : i = 0 := by simpa using hi
    subst this
    simp at h
    subst h
    rfl
  | g :: NS, u :: vs, 0, f, v, nd, h, _, _ => by
    simp at h
    subst h
    simp [iput, putF]
  | g :: NS, u :: vs, i + 1, f, v, nd, h, hi, hl => by
    have hm : f ∈ NS := List.mem_of_getElem? (by simpa using h)
    have ne : ¬ g = f := fun e => (List.nodup_cons.mp nd).1 (e ▸ hm)
    have ih := putF_take (v := v) (List.nodup_cons.mp nd).2 (by simpa using h) (show i ≤ vs.length by simpa using hi) (by simpa using hl)
    have e : iput (u :: vs) (i + 1) v = u :: iput vs i v := by
      unfold iput
      simp only [List.length_cons, Nat.add_lt_add_iff_right]
      split <;> rfl
    rw [e]
    simp only [List.length_cons, List.take_succ_cons, List.zip_cons_cons, putF, if_neg ne]
    rw [ih]
theorem Reps.iput {K : PySem.W.Frag} {H : Hp} {ws : List D} {vs : List V} {i : Nat} {w : D} {v : V} (r : Reps K H ws vs) (q : Rep K H w v) : Reps K H (Dz.iput ws i w) (Dz.iput vs i v) := by
  unfold Dz.iput
  rw [r.len]
  split
  · exact Reps.set q i r
  · exact r.append ⟨v, [], rfl, q, rfl⟩
section
variable {X : Cx} {C : Addr} {NS : List Str} {i : Nat} {f m : Str} {o e value : Expr} {to te tv : DE} {pos pos' apos : Pos}
/-- o.f -/
def dFld (C : Addr) (NS : List Str) (i : Nat) (te : DE) : DE := fun env s R => te env s fun x s1 => match x with
  | .ref a => (match insM C NS (s1.M a) with
    | some ws => (match ws[i]? with
      | some w => R w s1
      | none => False)
    | none => False)
  | _ => False
theorem pd_fld (c : Cls X.K C) (n : NoAttr X.K C f) (nd : NS.Nodup) (hf : NS[i]? = some f) (he : PD X o to) (hb : attributeBase o f X.env (eval o X.env) = eval o X.env := by rfl) : PD X (.Attribute o f pos) (dFld C NS i to) :=
  pe_imp (pe_fld he hb) fun σ H Q ⟨env, s, R, h1, h2, h3, h4⟩ => ⟨env, s, _, h1, h2, h3, fun x s1 v H1 q e1 m1 r1 => by
    split at q
    · rename_i a
      split at q
      · rename_i ws hw
        split at q
        · rename_i w hi
          obtain ⟨e, l⟩ := insM_inv hw
          obtain ⟨dx, vs, z1, z2, z3⟩ := m1.at_ a _ e
          obtain ⟨u, hu, ru⟩ := z3.get hi
          rw [z3.len] at z1 l
          exact ⟨a, C, dx, _, u, r1, z1, c, n, by rw [lookup_take nd hf l]; exact hu, h4 w s1 u H1 q e1 m1 ru⟩
        · exact q.elim
      · exact q.elim
    · exact q.elim⟩
/-- o.f = v -/
def dSetFld (C : Addr) (NS : List Str) (i : Nat) (tv to : DE) : DS := fun DD env s => tv env s fun w s1 => to env s1 fun x s2 => match x with
  | .ref a => (match insM C NS (s2.M a) with
    | some ws => i ≤ ws.length ∧ DD.nx env (s2.put a (insO C NS (iput ws i w)))
    | none => False)
  | _ => False
theorem pd_setFld (c : Cls X.K C) (n : NoAttr X.K C f) (nd : NS.Nodup) (hf : NS[i]? = some f) (h9 : NS.length < 1000) (hv : PD X value tv) (he : PD X o to) (hs : swapsWith value (some (.Attribute o f pos')) pos.line X.env = pure false := by rfl) : PDS X (.Assign [.Attribute o f pos'] value pos) (dSetFld C NS i tv to) :=
  ps_imp (ps_fld he hv hs) fun D σ H ⟨env, s, DD, h1, h2, h3, h4⟩ => ⟨env, s, _, h1, h2, h3, fun w s1 y H1 q e1 m1 r1 => ⟨env, s1, _, h1.ext e1.ext, m1, q, fun x s2 v H2 q2 e2 m2 r2 => by
    split at q2
    · rename_i a
      split at q2
      · rename_i ws hw
        obtain ⟨e, l⟩ := insM_inv hw
        obtain ⟨dx, vs, z1, z2, z3⟩ := m2.at_ a _ e
        have mu := (m2.at_ a _ e).mut
        rw [z3.len] at z1 l
        refine ⟨a, C, dx, _, r2, z1, c, n, by rw [List.length_zip, List.length_take]; omega, ?_⟩
        have hi : i ≤ vs.length := by rw [← z3.len]; exact q2.1
        rw [putF_take nd hf hi l]
        have rr := z3.iput (i := i) (Rep.ext e2.ext _ _ r1)
        have ex : Ext H2 (upd H2 a (.ins C dx ((NS.take (iput vs i y).length).zip (iput vs i y)))) := .put mu
        refine h4.nx env _ _ _ q2.2 ((e1.trans e2).trans (.put (.inr ⟨mu, by rw [e]; simp⟩))) (m2.write (.inr ⟨_, e, fun _ => nofun⟩) (fun _ => nofun) ⟨dx, iput vs i y, ?_, ?_, Reps.ext ex _ _ rr⟩) (h1.ext ((e1.trans e2).ext.trans ex))
        · rw [upd_same, rr.len]
        · have hlt := (List.getElem?_eq_some_iff.mp hf).1
          rw [List.length_take, rr.len, iput_len]
          split <;> omega
      · exact q2.elim
    · exact q2.elim⟩⟩
end
/-! ### methods -/
structure Mdf (P : Program) (w : World) (K : PySem.W.Frag) (mg : Str → Option Value) (base : Heap) (k : Nat) (C : Addr) (m : Str) (ps : List Str) (sp : SpD) : Prop where
  ex : ∃ f fd, Meth K C m f ∧ Binds K fd ps [] ∧ FnG P w K mg base CX0 k f fd ps (liftSp K sp)
structure Ndf (P : Program) (w : World) (K : PySem.W.Frag) (mg : Str → Option Value) (base : Heap) (k : Nat) (x : Str) (C : Addr) (ps : List Str) (sp : SpD) : Prop where
  ex : ∃ f fd, mg x = some (.ref C) ∧ Mk K C f ∧ Binds K fd ps [] ∧ FnG P w K mg base CX0 k f fd ps (liftSp K sp)
theorem fng_of {P : Program} {w : World} {K : PySem.W.Frag} {mg : Str → Option Value} {base : Heap} {k : Nat} {f : Addr} {fd : FuncData} {x qual : Str} {params : Arguments} {body : List Stmt} {scope : Scope} {kws : List (Str × V)} {N ps : List Str} {sp : SpD} {tb : DS}
    (F : FunD K x qual params body scope [] kws f fd) (S : FnScope N ps scope)
    (body_ok : ∀ (cdv : Value) (A : Around) (outer : List Env) (s : Shared) (H : Hp) (E : XK), Room k (A.deeper (envOfC qual scope s.heap.objs.size f cdv)) → (A.deeper (envOfC qual scope s.heap.objs.size f cdv)).guards = some [] → PDSs (cxOf CX0 P w K mg base N qual scope f cdv A outer s H E).nox body tb)
    (sem : ∀ ws s R, sp ws s R X0 → ws.length = ps.length ∧ ∀ K H, MRep K H s → ∃ s1, MRep K H s1 ∧ Stp H s H s1 ∧ tb { nx := fun _ s' => Lw R .non s', rt := Lw R } (startD N ws) s1)
    (noX : ∀ ws s R E, sp ws s R E → sp ws s R X0) : FnG P w K mg base CX0 (k + 1) f fd ps (liftSp K sp) := by
  refine fnG_of F S (fun vs H Q E ⟨ws, s, R, E', h1, h2, h3, h4, h5⟩ => by rw [← h1.len]; exact (sem ws s R (noX _ _ _ _ h3)).1) fun cdv A outer s0 H vs Q E hr hg ⟨ws, s, R, E', h1, h2, h3, h4, h5⟩ => ?_
  obtain ⟨s1, m1, e1, q⟩ := (sem ws s R (noX _ _ _ _ h3)).2 K H h2
  have h6 := (h4.ext e1).lw
  exact ⟨_, (body_ok cdv A outer s0 H E hr hg).nox, startD N ws, s1, _, renv_start h1, m1, q, ⟨fun env s' σ H' q e m r => h6 .non s' _ H' q e m rfl, h6, fun _ _ _ _ q => q.elim, fun _ _ _ _ q => q.elim⟩⟩
section
variable {X : Cx} {C : Addr} {NS : List Str} {k : Nat} {m x : Str} {ps : List Str} {sp : SpD} {o e : Expr} {es : List Expr} {to : DE} {t : DA} {pos apos p : Pos}
/-- o.m(..) -/
def dMeth (C : Addr) (NS : List Str) (sp : SpD) (to : DE) (ta : DA) : DE := fun env s R => to env s fun x s1 => match x with
  | .ref a => (match insM C NS (s1.M a) with
    | some _ => ta env s1 fun us s2 => sp (.ref a :: us) s2 R X0
    | none => False)
  | _ => False
theorem pd_meth {pl : Sem Bool} (c : Cls X.K C) (F : Mdf X.prog X.w X.K X.mg X.base k C m ps sp) (hr : Room k X.A) (hgd : X.A.guards = some []) (hn : m ∉ NS) (he : PD X o to) (ha : PDA X (e :: es) t)
    (hst : starEach (e :: es) X.env = (false, eval e X.env) :: starEach es X.env := by rfl) (hpl : (backTo pos (starEach es X.env)).any (·.1) = false := by rfl)
    (ht : eval (.Call (.Attribute o m apos) (e :: es) [] pos) X.env = (do
      let ov ← eval o X.env
      standAt apos.atName
      let (f, first) ← holding [ov] (getMethod ov m pl)
      callWith pos f first (backTo pos (starEach (e :: es) X.env)) (backToKw pos (keywordEach [] X.env))) := by rfl) :
    PD X (.Call (.Attribute o m apos) (e :: es) [] pos) (dMeth C NS sp to t) := by
  obtain ⟨f, fd, hm, hb, G⟩ := F.ex
  refine ⟨fun pins s σ H Q I h => ?_⟩
  obtain ⟨env, sg, R, h1, h2, h3, h4⟩ := h
  refine PySem.W.methodCall_KW (pl := pl) (thn (he.run pins s σ H (fun v H1 => ∃ a dx fs s1, v = .ref a ∧ H1 a = some (.ins C dx fs) ∧ fs.lookup m = none ∧ Stp H sg H1 s1 ∧ MRep X.K H1 s1 ∧ t env s1 fun us s2 => sp (.ref a :: us) s2 R X0) I ⟨env, sg, _, h1, h2, h3, fun x s1 v H1 q e1 m1 r1 => ?_⟩) fun u s1 ⟨x, H1, I1, rx, a, dx, fs, sg1, ex, ea, l, e1, m1, q⟩ => ?_) ht
  · split at q
    · rename_i a
      split at q
      · rename_i ws hw
        obtain ⟨e, l⟩ := insM_inv hw
        obtain ⟨dx, vs, z1, z2, z3⟩ := m1.at_ a _ e
        exact ⟨a, dx, _, s1, r1, z1, lookup_not fun hq => hn (List.mem_of_mem_take hq), e1, m1, q⟩
      · exact q.elim
    · exact q.elim
  · subst ex
    obtain rfl : u = Value.ref a := rx
    refine getmeth_ok I1 ea c hm l ?_
    refine PySem.W.callWith_K (first := [.ref a]) (h₀ := X.base) I.ok.mod.kin hm.kp (thn (ha.run pos pins s1 σ H1 (fun vs H2 => liftSp X.K sp (.ref a :: vs) H2 Q E0) I1 ⟨env, sg1, _, h1.ext e1.ext, m1, q, fun us s2 vs H2 q2 e2 m2 r2 => ?_⟩) fun us s2 ⟨vs, H2, I2, r, q2⟩ => ⟨I2.kIn, ?_⟩) hst hpl
    · exact ⟨.ref a :: us, s2, R, X0, ⟨.ref a, vs, rfl, rfl, r2⟩, m2, q2, h4.ext (e1.trans e2), postX0⟩
    · refine run_fnG (us := .ref a :: us) (vs := .ref a :: vs) (E := E0) G hr hgd hb .nil pass0 I2 (.cons rfl r) ?_
      rw [List.append_nil]
      exact q2
theorem pd_meth0 {pl : Sem Bool} (c : Cls X.K C) (F : Mdf X.prog X.w X.K X.mg X.base k C m ps sp) (hr : Room k X.A) (hgd : X.A.guards = some []) (hn : m ∉ NS) (he : PD X o to)
    (ht : eval (.Call (.Attribute o m apos) [] [] pos) X.env = (do
      let ov ← eval o X.env
      standAt apos.atName
      let (f, first) ← holding [ov] (getMethod ov m pl)
      callWith pos f first (backTo pos (starEach [] X.env)) (backToKw pos (keywordEach [] X.env))) := by rfl) :
    PD X (.Call (.Attribute o m apos) [] [] pos) (dMeth C NS sp to dNil) := by
  obtain ⟨f, fd, hm, hb, G⟩ := F.ex
  refine ⟨fun pins s σ H Q I h => ?_⟩
  obtain ⟨env, sg, R, h1, h2, h3, h4⟩ := h
  refine PySem.W.methodCall_KW (pl := pl) (thn (he.run pins s σ H (fun v H1 => ∃ a dx fs s1, v = .ref a ∧ H1 a = some (.ins C dx fs) ∧ fs.lookup m = none ∧ Stp H sg H1 s1 ∧ MRep X.K H1 s1 ∧ sp [.ref a] s1 R X0) I ⟨env, sg, _, h1, h2, h3, fun x s1 v H1 q e1 m1 r1 => ?_⟩) fun u s1 ⟨x, H1, I1, rx, a, dx, fs, sg1, ex, ea, l, e1, m1, q⟩ => ?_) ht
  · split at q
    · rename_i a
      split at q
      · rename_i ws hw
        obtain ⟨e, l⟩ := insM_inv hw
        obtain ⟨dx, vs, z1, z2, z3⟩ := m1.at_ a _ e
        exact ⟨a, dx, _, s1, r1, z1, lookup_not fun hq => hn (List.mem_of_mem_take hq), e1, m1, q⟩
      · exact q.elim
    · exact q.elim
  · subst ex
    obtain rfl : u = Value.ref a := rx
    refine getmeth_ok I1 ea c hm l ?_
    exact PySem.W.callWith_K0 (first := [.ref a]) I1.kIn hm.kp (run_fnG (us := [.ref a]) (vs := [.ref a]) (E := E0) G hr hgd hb .nil pass0 I1 (.cons rfl .nil) ⟨[.ref a], sg1, R, X0, ⟨.ref a, [], rfl, rfl, rfl⟩, m1, q, h4.ext e1, postX0⟩)
/-- C(..) -/
def dMake (C : Addr) (NS : List Str) (sp : SpD) (ta : DA) : DE := fun env s R => ta env s fun us s1 => ∀ a, s1.M a = none → sp (.ref a :: us) (s1.put a (insO C NS [])) (fun w s2 => w = .non ∧ R (.ref a) s2) X0
theorem run_makeG {pins : List (Addr × Obj)} {σ : L2.St} {H : Hp} {s : Shared} {Q : VK} {us : List Value} {vs : List V} {f : Addr} {fd : FuncData} {sp : Sp} (M : Mk X.K C f) (F : FnG X.prog X.w X.K X.mg X.base CX0 k f fd ps sp) (hr : Room (k + 1) X.A) (hgd : X.A.guards = some []) (hb : Binds X.K fd ps []) (I : Inv X pins σ H s) (r : Vals vs us)
    (h : ∀ x dx, H x = none → H dx = none → dx ≠ x → sp (.ref x :: vs) (upd (upd H dx (.own x)) x (.ins C dx [])) (fun v H2 => v = .non ∧ Q (.ref x) H2) E0) :
    wpAny (model X.prog X.w) X.A (call (.ref C) us) (EP X pins σ Q) X.xe s := by
  have hq := h (s.heap.objs.size + 1) s.heap.objs.size (I.hok.fresh (Nat.le_succ _)) (I.hok.fresh (Nat.le_refl _)) (Nat.ne_of_lt (Nat.lt_succ_self _))
  have I2 := Inv.made (C := C) I
  have r2 : Vals (V.ref (s.heap.objs.size + 1) :: vs) (Value.ref (s.heap.objs.size + 1) :: us) := .cons rfl r
  have hl : (Value.ref (s.heap.objs.size + 1) :: us ++ []).length = ps.length := by
    have e := r2.length
    rw [F.len _ _ _ _ hq] at e
    rw [List.append_nil]
    exact e.symm
  have hgu : (X.A.under (.builtin "type.__call__" ⟨.ref C :: us, []⟩)).guards = some [] := by
    have hg : (Code.builtin "type.__call__" ⟨.ref C :: us, []⟩).guards = [] := rfl
    simp [Around.under, hg, pushGuards, hgd]
  refine wpAny_call (make_map (f := f) I.kIn M.makes M.init (beq_iff_eq.mp M.fn) (codeAny_mono (F.run _ X.stack _ _ ⟨Value.ref (s.heap.objs.size + 1) :: us, []⟩ (Value.ref (s.heap.objs.size + 1) :: us) _ _ E0 (hr.make C us []) hgu
    (I2.env0.make C us []) (by have := hb _ (Value.ref (s.heap.objs.size + 1) :: us) I2.kIn hl; rw [List.append_nil] at this; exact this) r2 hq) fun r s' hq' => ?_))
  rcases r with e | (_ | _ | _ | u)
  · exact pass0 pins σ _ _ e s' I2 hq'
  · exact False.elim hq'
  · exact False.elim hq'
  · exact False.elim hq'
  · obtain ⟨v, H', I3, rv, ev, q3⟩ := I2.after hq'
    subst ev
    exact ⟨rv, ⟨V.ref (s.heap.objs.size + 1), H', I3, rfl, q3⟩⟩
theorem pd_make (F : Ndf X.prog X.w X.K X.mg X.base k x C ps sp) (hr : Room (k + 1) X.A) (hgd : X.A.guards = some []) (hg : Gl X x) (ha : PDA X (e :: es) t)
    (hdb : (x == ("__debug__" : Str)) = false := by decide) (he : starEach (e :: es) X.env = (false, eval e X.env) :: starEach es X.env := by rfl) (hpl : (backTo pos (starEach es X.env)).any (·.1) = false := by rfl) :
    PD X (.Call (.Name x p) (e :: es) [] pos) (dMake C NS sp t) := by
  obtain ⟨f, fd, hm, M, hb, G⟩ := F.ex
  refine ⟨fun pins s σ H Q I h => ?_⟩
  obtain ⟨env, sg, R, h1, h2, h3, h4⟩ := h
  refine wpAny_Call_Name_kw (ld_glob I hg hm ?_ hdb)
  refine PySem.W.callWith_K (h₀ := X.base) I.ok.mod.kin M.kp (thn (ha.run pos pins s σ H (fun vs H1 => ∀ y dx, H1 y = none → H1 dx = none → dx ≠ y → liftSp X.K sp (.ref y :: vs) (upd (upd H1 dx (.own y)) y (.ins C dx [])) (fun v H2 => v = .non ∧ Q (.ref y) H2) E0) I ⟨env, sg, _, h1, h2, h3, fun us s1 vs H1 q e1 m1 r1 y dx hy hdx ne => ?_⟩) fun us s1 ⟨vs, H1, I1, r, q⟩ => ⟨I1.kIn, run_makeG M G hr hgd hb I1 r q⟩) he hpl
  have hy2 : (upd H1 dx (.own y)) y = none := by rw [upd_ne (Ne.symm ne)]; exact hy
  have ex1 : Stp H1 s1 (upd H1 dx (.own y)) s1 := .new hdx
  have ex2 : Stp (upd H1 dx (.own y)) s1 (upd (upd H1 dx (.own y)) y (.ins C dx [])) (s1.put y (insO C NS [])) := .put (.inl hy2)
  refine ⟨.ref y :: us, s1.put y (insO C NS []), _, X0, ⟨.ref y, vs, rfl, rfl, Reps.ext (ex1.ext.trans ex2.ext) _ _ r1⟩, (m1.new hdx).write (.inl hy2) (fun _ => nofun) ⟨dx, [], by rw [upd_same]; simp [insO], by simp [insO], rfl⟩, q y (m1.free hy), fun w s2 v H2 ⟨ew, qw⟩ e2 m2 r2 => ?_, postX0⟩
  subst ew
  exact ⟨r2, h4 (.ref y) s2 (.ref y) H2 qw (e1.trans (ex1.trans (ex2.trans e2))) m2 rfl⟩
end
end Dz
/-! dict(pairs) -/
namespace Dz
open PySem PySem.Spec PyProof.Rows L2
/-- the pairs of a list, as keys and values -/
def kvsD : List D → Option (List (Key × D))
  | [] => some []
  | .tup [a, b] :: r => (keyD a).bind fun k => (kvsD r).map fun l => (k, b) :: l
  | _ :: _ => none
def kvf {α : Type} : List (Key × α) → List Key → List α → List Key × List α
  | [], ks, ws => (ks, ws)
  | (k, x) :: r, ks, ws => kvf r (kput ks k) (vput ks ws k x)
theorem kvf_ok {α : Type} : ∀ {kvs : List (Key × α)} {ks : List Key} {ws : List α}, ks.Nodup → ks.length = ws.length → (kvf kvs ks ws).1.Nodup ∧ (kvf kvs ks ws).1.length = (kvf kvs ks ws).2.length
  | [], ks, ws, nd, l => ⟨nd, l⟩
  | (k, x) :: r, ks, ws, nd, l => kvf_ok (kvs := r) (kput_nodup nd) (vput_len l).symm
theorem mergeK_zip : ∀ {kvs : List (Key × V)} {ks : List Key} {vs : List V}, ks.Nodup → ks.length = vs.length → mergeK (ks.zip vs) kvs = (kvf kvs ks vs).1.zip (kvf kvs ks vs).2
  | [], ks, vs, _, _ => rfl
  | (k, x) :: r, ks, vs, nd, l => by
    show mergeK (putK (ks.zip vs) k x) r = _
    rw [putK_zip nd l]
    exact mergeK_zip (kput_nodup nd) (vput_len l).symm
theorem kvf_reps {K : PySem.W.Frag} {H : Hp} : ∀ {kvs : List (Key × D)} {xs : List V} {ks : List Key} {ws : List D} {vs : List V}, Reps K H (kvs.map (·.2)) xs → Reps K H ws vs →
    (kvf ((kvs.map (·.1)).zip xs) ks vs).1 = (kvf kvs ks ws).1 ∧ Reps K H (kvf kvs ks ws).2 (kvf ((kvs.map (·.1)).zip xs) ks vs).2
  | [], xs, ks, ws, vs, r, q => by cases (show xs = [] from r); exact ⟨rfl, q⟩
  | (k, x) :: kvs, xs, ks, ws, vs, r, q => by
    obtain ⟨v, t, rfl, r1, r2⟩ := r
    exact kvf_reps (kvs := kvs) r2 (q.vput r1)
section
variable {X : Cx}
theorem pairsV {pins : List (Addr × Obj)} {σ : L2.St} {H : Hp} {s : Shared} (I : Inv X pins σ H s) : ∀ {ps : List Addr} {kvs : List (Key × V)}, Paired (fun p kv => SqT X.K H p [kV kv.1, kv.2]) ps kvs →
    ∃ (prs : List (Key × Value)) (pv : List (Value × Value)), KV kvs prs ∧ prs.length = ps.length ∧ pv.length = ps.length ∧ ∀ (j : Nat) (k v : Value), pv[j]? = some (k, v) → ∃ (b : Addr) (q : Key), ps[j]? = some b ∧ IsTup s.heap b #[k, v] ∧ prs[j]? = some (q, v) ∧ keyIs q k = true
  | _, _, .nil => ⟨[], [], .nil, rfl, rfl, fun j _ _ e => by simp at e⟩
  | _, _, .cons (a := p) (b := kv) h t => by
    obtain ⟨prs, pv, r, hl, hl2, hp⟩ := pairsV I t
    obtain ⟨its, rv, ht, _⟩ := I.tuple h
    obtain ⟨u, y, ei, ru, ry⟩ := vals2 rv
    subst ei
    refine ⟨(kv.1, y) :: prs, (u, y) :: pv, .cons ⟨rfl, ry⟩ r, by rw [List.length_cons, List.length_cons, hl], by rw [List.length_cons, List.length_cons, hl2], fun j k v e => ?_⟩
    cases j with
    | zero =>
      have e' : (u, y) = (k, v) := Option.some.inj e
      cases e'
      exact ⟨p, kv.1, rfl, ht, rfl, kV_is (P := X.prog) (w := X.w) ru⟩
    | succ j =>
      obtain ⟨b, q, e1, e2, e3, e4⟩ := hp j k v (by simpa using e)
      exact ⟨b, q, by simpa using e1, e2, by simpa using e3, e4⟩
theorem plT_at {pins : List (Addr × Obj)} {σ : L2.St} {H : Hp} {s : Shared} {a : Addr} (I : Inv X pins σ H s) (h : PlT X.K H a) : ∃ o, s.heap.get? a = some o ∧ o.dict = none := by
  rcases h with ⟨o, u, e, d⟩ | ⟨o, e, d⟩
  · exact ⟨o, (I.hok a _ e).1, d⟩
  · exact ⟨o, I.kIn a o e, d⟩
/-- dict(t), t a tuple of pairs -/
theorem call_dictT (hcalm : X.calm = true) : CallR X (.type "dict") (fun xs H Q => ∃ (a : Addr) (ps : List Addr) (kvs : List (Key × V)), xs = [.ref a] ∧ SqN X.K H a (ps.map V.ref) ∧ Paired (fun p kv => SqT X.K H p [kV kv.1, kv.2]) ps kvs ∧
    ∀ p, H p = none → Q (.ref p) (upd H p (.dK (mergeK [] kvs)))) := by
  intro pins s σ H xs us Q I r q
  obtain ⟨a, ps, kvs, ex, hq, hp, q⟩ := q
  subst ex
  obtain ⟨u, eu, rx⟩ := vals1 r
  subst eu
  cases rx
  obtain ⟨its, rv, ⟨o, ho, hc, n, hdat⟩, hz⟩ := I.tuple hq.1
  obtain ⟨o2, ho2, hd⟩ := plT_at I hq.2
  rw [ho] at ho2
  cases ho2
  have ei := refs_at rv
  subst ei
  rw [List.length_map] at hz
  obtain ⟨prs, pv, rel, hl, hl2, hpr⟩ := pairsV I hp
  refine PySem.call_dict_pairs (knd := mixKind X.prog X.w) (kvs := prs) (PairArg.tuple a (ps.map Value.ref).toArray (fun j => ps.getD j 0) pv) (I.ok.hd hcalm) ⟨⟨o, n, ho, hc, hd, hdat⟩, by simp [hl2], fun j k v e => ?_⟩ ⟨by rw [hl, hl2], fun i key v e => ?_⟩ (by rw [hl2]; exact hz) fun h' tk hd' k => ?_
  · obtain ⟨b, q', e1, e2, e3, e4⟩ := hpr j k v e
    refine ⟨by simp [e1, List.getD_eq_getElem?_getD], ?_⟩
    show PairAt s.heap (ps.getD j 0) k v
    rw [List.getD_eq_getElem?_getD, e1]
    exact .inl e2
  · obtain ⟨b, q', e1, e2, e3, e4⟩ := hpr i key v e
    exact ⟨q', e3, e4⟩
  · have hm : (s.heap.objs.size == sysModules) = false := beq_eq_false_iff_ne.mpr (Nat.ne_of_gt I.big)
    have hlen : (mergeK [] kvs).length ≤ sizeLine := by
      refine Nat.le_trans (length_mergeK kvs []) ?_
      rw [List.length_nil, Nat.zero_add, rel.length, hl]
      exact hz
    exact ⟨.ref s.heap.objs.size, upd H s.heap.objs.size (.dK (mergeK [] kvs)), I.laid (t' := tk) (fun b o e => k b o (by simp) e) (Nat.le_refl _) (show ObjOk X.prog X.w _ _ _ (.dK (mergeK [] kvs)) from ⟨hlen, hm, merged [] prs, KV.merge rel .nil, hd'⟩), rfl, q _ (I.hok.fresh (Nat.le_refl _))⟩
theorem kvs_pairs {K : PySem.W.Frag} {H : Hp} : ∀ {us : List D} {vs : List V} {kvs : List (Key × D)}, kvsD us = some kvs → Reps K H us vs → ∃ (ps : List Addr) (xs : List V), vs = ps.map V.ref ∧ Paired (fun p kv => SqT K H p [kV kv.1, kv.2]) ps ((kvs.map (·.1)).zip xs) ∧ Reps K H (kvs.map (·.2)) xs
  | [], vs, kvs, h, r => by
    cases h
    cases (show vs = [] from r)
    exact ⟨[], [], rfl, .nil, rfl⟩
  | w :: us, vs, kvs, h, r => by
    unfold kvsD at h
    split at h
    · rename_i e
      cases e
    · rename_i a b r' e
      cases e
      obtain ⟨k, hk, h⟩ := Option.bind_eq_some_iff.mp h
      obtain ⟨l, hl, h⟩ := Option.map_eq_some_iff.mp h
      cases h
      obtain ⟨v, t, rfl, r1, r2⟩ := r
      obtain ⟨p, ys, rfl, f, ⟨y1, t1, rfl, q1, ⟨y2, t2, rfl, q2, q3⟩⟩⟩ := r1
      cases (show t2 = [] from q3)
      obtain ⟨ps, xs, e1, e2, e3⟩ := kvs_pairs hl r2
      cases keyD_rep hk q1
      exact ⟨p :: ps, y2 :: xs, by rw [e1]; rfl, .cons f.1 e2, ⟨y2, xs, rfl, q2, e3⟩⟩
    · cases h
/-- dict(xs) -/
def dDictP (te : DE) : DN2 := fun env s R => te env s fun x s1 => match (asQ s1 x).bind kvsD with
  | some kvs => R (kvf kvs [] []).1 (kvf kvs [] []).2 s1
  | none => False
variable {e : Expr} {te : DE} {nm : Str} {p pos : Pos}
theorem nd_dictP (hc : X.calm = true) (he : PD X e te) (hg : Gl X nm) (hm : X.mg nm = none) (hv : bootBuiltins nm = some (.type "dict")) (hn : nm ≠ "__name__" := by decide) (hdb : (nm == ("__debug__" : Str)) = false := by decide)
    (hst : starEach [e] X.env = (false, eval e X.env) :: starEach [] X.env := by rfl) (hpl : (backTo pos (starEach [] X.env)).any (·.1) = false := by rfl) : PND X (.Call (.Name nm p) [e] [] pos) (dDictP te) := by
  have hcall : CallR X (.type "dict") (fun xs H Q => (∃ (a : Addr) (ps : List Addr) (kvs : List (Key × V)), xs = [.ref a] ∧ SqL X.K H a (ps.map V.ref) ∧ Paired (fun p kv => SqT X.K H p [kV kv.1, kv.2]) ps kvs ∧ ∀ p, H p = none → Q (.ref p) (upd H p (.dK (mergeK [] kvs)))) ∨
    (∃ (a : Addr) (ps : List Addr) (kvs : List (Key × V)), xs = [.ref a] ∧ SqN X.K H a (ps.map V.ref) ∧ Paired (fun p kv => SqT X.K H p [kV kv.1, kv.2]) ps kvs ∧ ∀ p, H p = none → Q (.ref p) (upd H p (.dK (mergeK [] kvs))))) := fun pins s σ H xs us Q I r q => q.elim (call_dictP hc pins s σ H xs us Q I r) (call_dictT hc pins s σ H xs us Q I r)
  refine pe_imp (pe_callTy hcall hg hm hv (pda_cons he pda_nil hst) hn hdb hst hpl) fun σ H Q ⟨env, s, R, h1, h2, h3, h4⟩ => ?_
  refine ⟨env, s, fun ws s1 => match ws with
    | [x] => (match (asQ s1 x).bind kvsD with
      | some kvs => R (kvf kvs [] []).1 (kvf kvs [] []).2 s1
      | none => False)
    | _ => False, h1, h2, h3, fun ws s1 vs H1 q e1 m1 r1 => ?_⟩
  dsimp only at q ⊢
  split at q
  · rename_i x
    split at q
    · rename_i kvs hk
      obtain ⟨us, hu, hk⟩ := Option.bind_eq_some_iff.mp hk
      obtain ⟨v, t, rfl, rx, rt⟩ := r1
      cases (show t = [] from rt)
      have fin : ∀ (ts : List V) (ps : List Addr) (xs : List V), Reps X.K H1 us ts → ts = ps.map V.ref → Paired (fun p kv => SqT X.K H1 p [kV kv.1, kv.2]) ps ((kvs.map (·.1)).zip xs) → Reps X.K H1 (kvs.map (·.2)) xs → ∀ p, H1 p = none → Q (.ref p) (upd H1 p (.dK (mergeK [] ((kvs.map (·.1)).zip xs)))) := fun ts ps xs _ _ _ rxs p hp => by
        obtain ⟨a1, a2⟩ := kvf_reps (ks := []) (ws := []) (vs := []) rxs rfl
        have em := mergeK_zip (kvs := (kvs.map (·.1)).zip xs) (ks := []) (vs := []) List.nodup_nil rfl
        have ok := kvf_ok (kvs := (kvs.map (·.1)).zip xs) (ks := []) (ws := []) List.nodup_nil rfl
        rw [show mergeK [] ((kvs.map (·.1)).zip xs) = _ from em, a1]
        rw [a1] at ok
        exact h4 _ _ s1 _ H1 q e1 m1 a2 ok.2 ok.1 p hp
      suffices h : ∃ a ts, v = .ref a ∧ (SqL X.K H1 a ts ∨ SqN X.K H1 a ts) ∧ Reps X.K H1 us ts by
        obtain ⟨a, ts, rfl, f, rs⟩ := h
        obtain ⟨ps, xs, rfl, e3, e4⟩ := kvs_pairs hk rs
        exact f.imp (fun f => ⟨a, ps, _, rfl, f, e3, fin _ ps xs rs rfl e3 e4⟩) fun f => ⟨a, ps, _, rfl, f, e3, fin _ ps xs rs rfl e3 e4⟩
      cases x with
      | tup ws =>
        cases hu
        obtain ⟨a, ts, ev, f, rs⟩ := rx
        exact ⟨a, ts, ev, .inr f, rs⟩
      | _ =>
        obtain ⟨a, ts, ev, f, rs⟩ := asL_sq (s := s1) (ws := us) (by simpa only [asQ] using hu) rx m1
        exact ⟨a, ts, ev, .inl f, rs⟩
    · exact q.elim
  · exact q.elim
end
end Dz
/-! {k: v, ..}; tables of the module -/
namespace Dz
open PySem PySem.Spec PyProof.Rows L2
def drp (H : Hp) (p : Addr) : Hp := fun b => if b = p then none else H b
theorem drp_ne {H : Hp} {p b : Addr} (h : b ≠ p) : drp H p b = H b := by simp [drp, h]
theorem drp_same {H : Hp} {p : Addr} : drp H p p = none := by simp [drp]
theorem upd_drp {H : Hp} {p : Addr} {o : HO} : upd (drp H p) p o = upd H p o := by
  funext b
  by_cases e : b = p
  · subst e; rw [upd_same, upd_same]
  · rw [upd_ne e, upd_ne e, drp_ne e]
theorem ext_drp {H : Hp} {p : Addr} {kvs : List (Key × V)} (h : H p = some (.dK kvs)) : Ext H (drp H p) :=
  ⟨fun b xs e => by rw [drp_ne fun z => by subst z; rw [h] at e; cases e]; exact e, fun b o u e => by rw [drp_ne fun z => by subst z; rw [h] at e; cases e]; exact e⟩
theorem MRep.drop {K : PySem.W.Frag} {H : Hp} {s : Sg} {p : Addr} {kvs : List (Key × V)} (m : MRep K H s) (h : H p = some (.dK kvs)) (hM : s.M p = none) (hv : p ∉ s.pv) : MRep K (drp H p) s := by
  have ex := ext_drp h
  refine ⟨fun a o e => ?_, m.one, fun b hb => ⟨by rw [drp_ne (show b ≠ p from fun z => hv (z ▸ hb))]; exact (m.pvs b hb).1, (m.pvs b hb).2⟩⟩
  have ha : a ≠ p := fun z => by subst z; rw [hM] at e; cases e
  have q := m.at_ a o e
  cases o with
  | lst ws => obtain ⟨vs, z1, z2⟩ := q; exact ⟨vs, by rw [drp_ne ha]; exact z1, Reps.ext ex _ _ z2⟩
  | dic ks ws => obtain ⟨vs, z1, z2, z3⟩ := q; exact ⟨vs, by rw [drp_ne ha]; exact z1, z2, Reps.ext ex _ _ z3⟩
  | ins C ns ws => obtain ⟨dx, vs, z1, z2, z3⟩ := q; exact ⟨dx, vs, by rw [drp_ne ha]; exact z1, z2, Reps.ext ex _ _ z3⟩
  | box I =>
    obtain ⟨st, vs, z0, z1, z2, z3⟩ := q
    exact ⟨st, vs, z0, by rw [drp_ne ha]; exact z1, z2.keep fun b hb => drp_ne fun z => hv (z ▸ hb), z3⟩
def dPairs : List (DE × DE) → Ev → Sg → (List (Key × D) → Sg → Prop) → Prop
  | [], _, s, R => R [] s
  | (tk, tv) :: r, env, s, R => tk env s fun y s1 => tv env s1 fun z s2 => dPairs r env s2 fun l s3 => match keyD y with
    | some k => R ((k, z) :: l) s3
    | none => False
def dDd (trs : List (DE × DE)) : DN2 := fun env s R => dPairs trs env s fun kvs s1 => kvs.length ≤ 15 ∧ R (kvf kvs [] []).1 (kvf kvs [] []).2 s1
theorem pairs_imp {K : PySem.W.Frag} : ∀ {trs : List (DE × DE)} {env : Ev} {σ : L2.St} {s : Sg} {H : Hp} {R : List (Key × D) → Sg → Prop} {Q : List (V × V) → Hp → Prop}, REnv K H env σ → MRep K H s → dPairs trs env s R →
    (∀ kvs s' xs H', R kvs s' → Stp H s H' s' → MRep K H' s' → Reps K H' (kvs.map (·.2)) xs → Q (((kvs.map (·.1)).zip xs).map fun kv => (kV kv.1, kv.2)) H') → tPairs (trs.map fun p => (liftE K p.1, liftE K p.2)) σ H Q
  | [], env, σ, s, H, R, Q, h1, h2, h3, h4 => h4 [] s [] H h3 (.refl _ _) h2 rfl
  | (tk, tv) :: r, env, σ, s, H, R, Q, h1, h2, h3, h4 => by
    refine ⟨env, s, _, h1, h2, h3, fun y s1 v H1 q e1 m1 r1 => ⟨env, s1, _, h1.ext e1.ext, m1, q, fun z s2 u H2 q2 e2 m2 r2 => ?_⟩⟩
    refine pairs_imp (trs := r) ((h1.ext e1.ext).ext e2.ext) m2 q2 fun kvs s' xs H' q3 e3 m3 r3 => ?_
    split at q3
    · rename_i k hk
      have := h4 ((k, z) :: kvs) s' (u :: xs) H' q3 ((e1.trans e2).trans e3) m3 ⟨u, xs, rfl, Rep.ext e3.ext _ _ r2, r3⟩
      cases keyD_rep hk r1
      exact this
    · exact q3.elim
section
variable {X : Cx} {pos : Pos} {keys : List (Option Expr)} {values : List Expr} {trs : List (DE × DE)}
abbrev PPd (X : Cx) (pos : Pos) (keys : List (Option Expr)) (values : List Expr) (trs : List (DE × DE)) : Prop := PPs X pos keys values (trs.map fun p => (liftE X.K p.1, liftE X.K p.2))
theorem ppd_nil : PPd X pos [] [] [] := pps_nil
theorem ppd_cons {k v : Expr} {tk tv : DE} (hk : PD X k tk) (hv : PD X v tv) (hr : PPd X pos keys values trs) : PPd X pos (some k :: keys) (v :: values) ((tk, tv) :: trs) := pps_cons hk hv hr
theorem nd_disp (h : PPd X pos keys values trs) (hall : keys.all (·.isSome) = true) (hl : keys.length = values.length) (h0 : keys ≠ []) (h15 : keys.length ≤ 15) : PND X (.Dict keys values pos) (dDd trs) := by
  refine pe_imp (pe_disp h hall hl h0 h15) fun σ H Q ⟨env, s, R, h1, h2, h3, h4⟩ => ?_
  intro p hp
  refine pairs_imp (h1.ext (.new hp)) (h2.new hp) h3 fun kvs s' xs H' ⟨l15, q⟩ e m r => ?_
  obtain ⟨g1, g2, g3⟩ := e.fr p (.dK []) upd_same trivial (h2.free hp) (h2.npv hp)
  refine ⟨g1, (kvs.map (·.1)).zip xs, rfl, ?_, ?_⟩
  · rw [List.length_zip, List.length_map]; omega
  · have ex := ext_drp g1
    have e0 : Stp H s (upd H p (.dK [])) s := .new hp
    have e1 := e0.trans e
    have st : Stp H s (drp H' p) s' := ⟨e1.ext.trans ex, fun b o h1 h2 h3 h4 => by
      obtain ⟨a1, a2, a3⟩ := e1.fr b o h1 h2 h3 h4
      exact ⟨by rw [drp_ne (ne_of_none h1 hp)]; exact a1, a2, a3⟩⟩
    obtain ⟨a1, a2⟩ := kvf_reps (ks := []) (ws := []) (vs := []) (Reps.ext ex _ _ r) (H := drp H' p) rfl
    have em := mergeK_zip (kvs := (kvs.map (·.1)).zip xs) (ks := []) (vs := []) List.nodup_nil rfl
    have ok := kvf_ok (kvs := (kvs.map (·.1)).zip xs) (ks := []) (ws := []) List.nodup_nil rfl
    rw [show mergeK [] ((kvs.map (·.1)).zip xs) = _ from em, a1, ← upd_drp]
    rw [a1] at ok
    exact h4 _ _ s' _ (drp H' p) q st (m.drop g1 g2 g3) a2 ok.2 ok.1 p drp_same
end
/-! ### a dict of the module: texts to tuples of texts -/
def strsB : List Value → List Str → Bool
  | [], [] => true
  | .str x _ :: vs, y :: ys => decide (x = y) && strsB vs ys
  | _, _ => false
theorem strsB_ok : ∀ {vs : List Value} {xs : List Str}, strsB vs xs = true → Vals (xs.map V.str) vs
  | [], [], _ => .nil
  | [], _ :: _, h => by simp [strsB] at h
  | v :: vs, [], h => by cases v <;> simp [strsB] at h
  | v :: vs, y :: ys, h => by
    cases v with
    | str x t =>
      simp only [strsB, Bool.and_eq_true, decide_eq_true_eq] at h
      obtain ⟨rfl, h⟩ := h
      exact .cons ⟨t, rfl⟩ (strsB_ok h)
    | _ => simp [strsB] at h
def tupB (K : PySem.W.Frag) (a : Addr) (xs : List Str) : Bool := match K.lookup a with
  | some ⟨.type c, none, .seq its _, _⟩ => decide (c = "tuple") && (decide (its.size ≤ 1000) && strsB its.toList xs)
  | _ => false
theorem tupB_ok {K : PySem.W.Frag} {a : Addr} {xs : List Str} (h : tupB K a xs = true) (H : Hp) : Rep K H (.tup (xs.map D.str)) (.ref a) := by
  unfold tupB at h
  split at h
  · rename_i c its n sl e
    simp only [Bool.and_eq_true, decide_eq_true_eq] at h
    obtain ⟨rfl, hz, hs⟩ := h
    refine ⟨a, xs.map V.str, rfl, ⟨.inr ⟨_, its, n, e, rfl, rfl, Nat.le_trans hz (Nat.le_trans (by decide) mil), strsB_ok hs⟩, .inr ⟨_, e, rfl⟩⟩, ?_⟩
    clear hs
    induction xs with
    | nil => rfl
    | cons x xs ih => exact ⟨.str x, xs.map V.str, rfl, rfl, ih⟩
  · cases h
def tabB (K : PySem.W.Frag) (d : Addr) (tab : List (Str × List Str)) : Bool := tab.all fun q => match PySem.W.nsIn K d q.1 with
  | some (some (.ref a)) => tupB K a q.2
  | _ => false
structure Tbl (K : PySem.W.Frag) (w : World) (mg : Str → Option Value) (x : Str) (tab : List (Str × List Str)) : Prop where
  ex : ∃ d es n, mg x = some (.ref d) ∧ KDict K w d es n ∧ tabB K d tab = true
def dTab (tab : List (Str × List Str)) (ti : DE) : DE := fun env s R => ti env s fun y s1 => match y with
  | .str z => (match tab.find? fun q => decide (q.1 = z) with
    | some q => R (.tup (q.2.map D.str)) s1
    | none => False)
  | _ => False
theorem pd_tab {X : Cx} {x : Str} {i : Expr} {ti : DE} {tab : List (Str × List Str)} {p pos : Pos} (T : Tbl X.K X.w X.mg x tab) (hg : Gl X x) (hi : PD X i ti) (hs : PlainIx i) (hd : (x == ("__debug__" : Str)) = false := by decide) : PD X (.Subscript (.Name x p) i pos) (dTab tab ti) := by
  obtain ⟨d, es, n, hm, kd, tb⟩ := T.ex
  refine pe_imp (pe_ix ix_kdict (pe_glob hg hm (v := .ref d) rfl hd) hi hs) fun σ H Q ⟨env, s, R, h1, h2, h3, h4⟩ => ?_
  refine ⟨env, s, _, h1, h2, h3, fun y s1 v H1 q e1 m1 r1 => ?_⟩
  split at q
  · rename_i z
    split at q
    · rename_i qq hq
      have hmem := List.mem_of_find?_eq_some hq
      have hz : qq.1 = z := by simpa using List.find?_some hq
      have := List.all_eq_true.mp tb qq hmem
      rw [hz] at this
      split at this
      · rename_i a hn
        exact ⟨d, z, .ref a, rfl, r1, ⟨es, n, .ref a, kd.at_, kd.lit, hn, rfl⟩, h4 _ s1 (.ref a) H1 q e1 m1 (tupB_ok this H1)⟩
      · cases this
    · exact q.elim
  · exact q.elim
end Dz
/-! tests `k in d`, texts that grow -/
namespace Dz
open PySem PySem.Spec PyProof.Rows L2
section
variable {X : Cx} {i o e : Expr} {ti td te : DE} {pos pos' : Pos}
theorem pdt_din (hu : X.A.units + 1 < cLine) (hi : PD X i ti) (ho : PD X o td) (hm : behindInMarks .In o = false) : PDT X (.Compare i [.In] [o] pos) (dB (dDIn id ti td)) :=
  pt_imp (pt_cmp (pc_din hu hi ho) hm) fun σ H Q ⟨env, s, R, h1, h2, h3, h4⟩ => din_imp X.K σ H _ ⟨env, s, _, h1, h2, h3, fun w s1 v H1 q e1 m1 r1 => by
    cases w with
    | bl b => exact ⟨b, r1, h4 b s1 H1 q e1 m1⟩
    | _ => exact q.elim⟩
theorem pdt_dnotin (hu : X.A.units + 1 < cLine) (hi : PD X i ti) (ho : PD X o td) (hm : behindInMarks .NotIn o = false) : PDT X (.Compare i [.NotIn] [o] pos) (dB (dDIn (!·) ti td)) :=
  pt_imp (pt_cmp (pc_dnotin hu hi ho) hm) fun σ H Q ⟨env, s, R, h1, h2, h3, h4⟩ => dnin_imp X.K σ H _ ⟨env, s, _, h1, h2, h3, fun w s1 v H1 q e1 m1 r1 => by
    cases w with
    | bl b => exact ⟨b, r1, h4 b s1 H1 q e1 m1⟩
    | _ => exact q.elim⟩
/-- x += e of texts -/
def dAugS (i : Nat) (te : DE) : DS := fun D env s => match env[i]? with
  | some (some (.str a)) => te env s fun w s1 => match w with
    | .str b => a.length + b.length ≤ 1000000 ∧ D.nx (env.set i (some (.str (a ++ b)))) s1
    | _ => False
  | _ => False
theorem pd_augS {i : Nat} {x : Str} (hN : X.N.Nodup) (hi : X.N[i]? = some x) (hx : Loc X.env.scope x) (he : PD X e te) (hf : X.fn x = true ∨ X.env.scope.names.lookup x = some .local := by first | exact .inl rfl | exact .inr rfl | assumption) :
    PDS X (.AugAssign (.Name x pos') .Add e pos) (dAugS i te) :=
  ps_imp (ps_aug (ti := fun x y H Q => ∃ i j, x = .str i ∧ y = .str j ∧ i.length + j.length ≤ sizeLine ∧ Q (.str (i ++ j)) H) hN hi hx he (fun pins s σ H x y v u Q I r1 r2 h => iop_add_str pins s σ H x y v u Q I r1 r2 h) hf) fun D σ H ⟨env, s, DD, h1, h2, h3, h4⟩ => by
    unfold dAugS at h3
    split at h3
    · rename_i a ha
      obtain ⟨v, e1, e2⟩ := h1.2 i _ ha
      cases (show v = .str a from e2)
      refine ⟨.str a, e1, env, s, _, h1, h2, h3, fun w s1 u H1 q e m r => ?_⟩
      cases w with
      | str b =>
        cases (show u = .str b from r)
        exact ⟨a, b, rfl, rfl, Nat.le_trans q.1 mil, h4.nx _ _ _ _ q.2 e m ((h1.ext e.ext).set i rfl)⟩
      | _ => exact q.elim
    · exact h3.elim
end
def clsBody (s : Stmt) : List Stmt := match s with
  | .ClassDef _ _ _ b _ _ _ _ _ _ _ => b
  | _ => []
end Dz
/-! xs.index(y), t.index(y) of texts -/
namespace Dz
open PySem PySem.Spec PyProof.Rows L2
section
variable {X : Cx} {o a : Expr} {to ta : DE} {apos cpos : Pos}
def rIndexS (x : D) (R : KD) (y : D) (s2 : Sg) : Prop := ∃ (ys : List Str) (z : Str) (j : Nat), y = .str z ∧ asL s2 x = some (ys.map D.str) ∧ ys[j]? = some z ∧ (∀ m, m < j → ys[m]? ≠ some z) ∧ R (.int (j : Nat)) s2
def dIndex (to ta : DE) : DE := fun env s R => to env s fun x s1 => (∃ ws, asL s1 x = some ws) ∧ ta env s1 fun y s2 => rIndexS x R y s2
theorem asL_ty {K : PySem.W.Frag} {H : Hp} {s : Sg} {w : D} {v : V} {ws : List D} (h : asL s w = some ws) (r : Rep K H w v) (m : MRep K H s) : tyV K "list" v H := by
  obtain ⟨p, vs, rfl, q, _⟩ := asL_sq h r m
  exact .inl ⟨rfl, vs, q⟩
theorem pd_lindex (ho : PD X o to) (ha : PD X a ta) (hbase : attributeBase o "index" X.env (eval o X.env) = eval o X.env := by rfl)
    (hfew : ((backTo cpos (starEach [a] X.env)).all (fun x => !x.1) && (backToKw cpos (keywordEach [] X.env)).all (fun x => x.1.isSome) && decide (([a] : List Expr).length + ([] : List Keyword).length + (if ([] : List Keyword).isEmpty then 0 else 1) < 30)) = true := by rfl)
    (hline : (apos.endLine == cpos.line) = true := by rfl) (hs : starEach [a] X.env = (false, eval a X.env) :: starEach [] X.env := by rfl) :
    PD X (.Call (.Attribute o "index" apos) [a] [] cpos) (dIndex to ta) :=
  pe_imp (pe_bm PySem.F.plainAttrs_list PySem.F.slot_list_index PySem.F.type_list_index mt_index ho (pda_cons ha pda_nil hs) hbase hfew hline hs) fun σ H Q ⟨env, s, R, h1, h2, h3, h4⟩ => by
    refine ⟨env, s, _, h1, h2, h3, fun x s1 v H1 q e1 m1 r1 => ?_⟩
    obtain ⟨⟨ws, hw⟩, q⟩ := q
    refine ⟨asL_ty hw r1 m1, env, s1, (fun zs s2 => match zs with
      | [y] => rIndexS x R y s2
      | _ => False), h1.ext e1.ext, m1, q, fun zs s3 us H3 q3 e3 m3 r3 => ?_⟩
    dsimp only at q3
    split at q3
    · rename_i y
      obtain ⟨u, ur, rfl, r2, r4⟩ := r3
      cases (show ur = [] from r4)
      obtain ⟨ys, z, j, rfl, hy, hj, hno, c⟩ := q3
      cases (show u = .str z from r2)
      obtain ⟨b, vs, rfl, f, g⟩ := asL_sq hy (r1.ext e3.ext) m3
      cases g.strs
      refine ⟨b, _, _, j, .str z, rfl, rfl, f, rfl, flat_strs ys, by rw [List.getElem?_map, hj]; rfl, by simp [eqV], fun m z' hm hz' => ?_, h4 _ _ _ _ c (e1.trans e3) m3 rfl⟩
      rw [List.getElem?_map] at hz'
      cases e : ys[m]? with
      | none => rw [e] at hz'; cases hz'
      | some y' =>
        rw [e] at hz'
        cases hz'
        have := hno m hm
        rw [e] at this
        show (y' == z) = false
        exact beq_eq_false_iff_ne.mpr fun w => this (by rw [w])
    · exact q3.elim
/-! a tuple's -/
theorem sqN_ty {pins : List (Addr × Obj)} {σ : L2.St} {H : Hp} {s : Shared} {p : Addr} {vs : List V} (I : Inv X pins σ H s) (q : SqN X.K H p vs) : s.TypeIs (.ref p) "tuple" ∧ ∀ b, Value.ref p = .ref b → ∃ ob, s.heap.get? b = some ob ∧ ob.dict = none := by
  obtain ⟨its, _, ⟨o, e, c, _⟩, _⟩ := I.tuple q.1
  exact ⟨⟨o, e, c⟩, fun b z => by cases z; exact plT_at I q.2⟩
def tBMN (K : PySem.W.Frag) (r : V → List V → Hp → VK → Prop) (to : TE) (t : TA) : TE := fun σ H Q => to σ H fun x H1 => (∃ p vs, x = .ref p ∧ SqN K H1 p vs) ∧ t σ H1 fun xs H2 => r x xs H2 Q
theorem pe_bmN {name : Str} {id : String} {to : TE} {t : TA} {r : V → List V → Hp → VK → Prop} (slot : Slot "tuple" name id) (hty : typeOf (.builtin id) = pure (.type "method_descriptor")) (hm : MtR X id r) (ho : PE X o to) (ha : PA X [a] t)
    (hbase : attributeBase o name X.env (eval o X.env) = eval o X.env)
    (hfew : ((backTo cpos (starEach [a] X.env)).all (fun x => !x.1) && (backToKw cpos (keywordEach [] X.env)).all (fun x => x.1.isSome) && decide (([a] : List Expr).length + ([] : List Keyword).length + (if ([] : List Keyword).isEmpty then 0 else 1) < 30)) = true)
    (hline : (apos.endLine == cpos.line) = true) (hs : starEach [a] X.env = (false, eval a X.env) :: starEach [] X.env) : PE X (.Call (.Attribute o name apos) [a] [] cpos) (tBMN X.K r to t) :=
  ⟨fun pins s σ H Q I h => wpAny_Call_method_late hbase hfew hline rfl (thn (ho.run pins s σ H _ I h) fun v s1 ⟨x, H1, I1, r1, ⟨p, vs, ex, qp⟩, q1⟩ => by
    subst ex
    cases r1
    obtain ⟨k1, k2⟩ := sqN_ty I1 qp
    refine ⟨"tuple", id, PySem.F.plainAttrs_tuple, slot, hty, k1, k2, ?_⟩
    have hA := ha.run cpos pins s1 σ H1 _ I1 q1
    rw [hs] at hA ⊢
    exact Calls.callWith_builtin rfl (Calls.evalArgs_plain (thn hA fun us s2 ⟨ws, H2, I2, r2, q2⟩ => hm pins s2 σ H2 (.ref p) ws _ us Q I2 rfl r2 q2)))⟩
def rIndexT (x : D) (R : KD) (y : D) (s2 : Sg) : Prop := ∃ (ys : List Str) (z : Str) (j : Nat), y = .str z ∧ x = .tup (ys.map D.str) ∧ ys[j]? = some z ∧ (∀ m, m < j → ys[m]? ≠ some z) ∧ R (.int (j : Nat)) s2
def dIndexT (to ta : DE) : DE := fun env s R => to env s fun x s1 => (∃ ws, x = .tup ws) ∧ ta env s1 fun y s2 => rIndexT x R y s2
theorem pd_tindex (ho : PD X o to) (ha : PD X a ta) (hbase : attributeBase o "index" X.env (eval o X.env) = eval o X.env := by rfl)
    (hfew : ((backTo cpos (starEach [a] X.env)).all (fun x => !x.1) && (backToKw cpos (keywordEach [] X.env)).all (fun x => x.1.isSome) && decide (([a] : List Expr).length + ([] : List Keyword).length + (if ([] : List Keyword).isEmpty then 0 else 1) < 30)) = true := by rfl)
    (hline : (apos.endLine == cpos.line) = true := by rfl) (hs : starEach [a] X.env = (false, eval a X.env) :: starEach [] X.env := by rfl) :
    PD X (.Call (.Attribute o "index" apos) [a] [] cpos) (dIndexT to ta) :=
  pe_imp (pe_bmN PySem.F.slot_tuple_index PySem.F.type_tuple_index mt_tup_index ho (pda_cons ha pda_nil hs) hbase hfew hline hs) fun σ H Q ⟨env, s, R, h1, h2, h3, h4⟩ => by
    refine ⟨env, s, _, h1, h2, h3, fun x s1 v H1 q e1 m1 r1 => ?_⟩
    obtain ⟨⟨ws, rfl⟩, q⟩ := q
    obtain ⟨b, vs, rfl, f, g⟩ := id r1
    refine ⟨⟨b, vs, rfl, f⟩, env, s1, (fun zs s2 => match zs with
      | [y] => rIndexT (.tup ws) R y s2
      | _ => False), h1.ext e1.ext, m1, q, fun zs s3 us H3 q3 e3 m3 r3 => ?_⟩
    dsimp only at q3
    split at q3
    · rename_i y
      obtain ⟨u, ur, rfl, r2, r4⟩ := r3
      cases (show ur = [] from r4)
      obtain ⟨ys, z, j, rfl, hy, hj, hno, c⟩ := q3
      cases hy
      cases (show u = .str z from r2)
      cases g.strs
      exact ⟨b, ys, z, j, rfl, rfl, e3.ext.sqT f.1, hj, hno, h4 _ _ _ _ c (e1.trans e3) m3 rfl⟩
    · exact q3.elim
end
end Dz
/-! several except clauses, each with the same name -/
namespace L2
open PySem PySem.Spec PyProof.Rows
abbrev Cla := List (Value × (Addr → Value → Option Addr → TS))
def goneD (i : Nat) (D : Ends) : Ends := { nx := fun σ' H' => D.nx (σ'.set i none) H', rt := D.rt, bk := fun σ' H' => D.bk (σ'.set i none) H', ct := fun σ' H' => D.ct (σ'.set i none) H' }
def wMas (K : PySem.W.Frag) (i : Nat) (Wout : WX) (D : Ends) : Cla → WX
  | [] => Wout
  | (c, ts) :: r => fun cls d σ H => ∃ b, PySem.W.exmOne K cls c = some b ∧ (b = true → ∀ a, H a = none → ts a cls d (goneD i D) (σ.set i (some (.ref a))) H) ∧ (b = false → wMas K i Wout D r cls d σ H)
inductive HdsAs (X : Cx) (n : Str) : List ExceptHandler → Cla → Prop
  | nil : HdsAs X n [] []
  | cons {x : Str} {c : Value} {ts : Addr → Value → Option Addr → TS} {b0 : Stmt} {suite : List Stmt} {np pos' : Pos} {hds : List ExceptHandler} {l : Cla} (hc : Names X x c)
      (hsu : ∀ (a : Addr) (oe : Obj) (cls : Value) (d : Option Addr) (pn : List (Addr × Obj)), Zc cls d oe → (∃ vs, oe.data = .fields vs) → PSs (X.suite a ((a, oe) :: pn)) (b0 :: suite) (ts a cls d)) (r : HdsAs X n hds l) :
      HdsAs X n (.ExceptHandler (some (.Name x np)) (some n) (b0 :: suite) pos' :: hds) ((c, ts) :: l)
section
variable {X : Cx} {n : Str} {i : Nat} {body : List Stmt} {h0 : ExceptHandler} {hds : List ExceptHandler} {l : Cla} {pos : Pos} {tb : WX → TS} {Wout : WX}
theorem ps_try_mas (hs : X.stack = X.env :: X.outer) (hf : X.env.frame = some X.env.locals) (hN : X.N.Nodup) (hi : X.N[i]? = some n) (hln : X.env.kindOf n = some .local) (tk : Takes X Wout)
    (hb : ∀ (W : WX) (pn : List (Addr × Obj)) (xe : Value → Shared → Prop), Takes (X.tr pn xe) W → PassesOwn (model X.prog X.w) X.A X.env xe → PSs (X.tr pn xe) body (tb W))
    (hh : HdsAs X n (h0 :: hds) l) : PS X (.Try body (h0 :: hds) [] [] pos) (fun D σ H => tb (wMas X.K i Wout D l) D σ H) := ⟨fun pins s σ H D I h => by
  have ok := I.ok
  have fr0 : X.A.frames = some (X.env :: X.outer) := by rw [ok.frames, hs]
  refine wpAny_Try_except (wpAny_mono ((hb (wMas X.K i Wout D l) (X.pn ++ pins) _ (fun u s' xx => ?_) PassesOwn.looking).run [] s σ H D (I.toTry _) h) (fun f s1 hsp => ?_) fun e s1 he => he)
  · obtain ⟨a, B, sI, pins', σ', H', cls, d, rfl, Jt, nb, up, sky, na, os, ag, w⟩ := xx
    have jj : Inv X pins σ' H' sI := Jt.ofTry ok
    have sk : Sky B (X.env :: X.outer) a (Zc cls d) X.env.locals s'.heap := by rw [← hs]; exact sky
    show wpAny (model X.prog X.w) X.A (noteFrame (.ref a) X.env) (fun _ z2 => wpAny (model X.prog X.w) X.A (setFlight (.ref a) none) _ _ z2) _ _
    refine Sky.land Zc.steady fr0 hf sk fun h3 fl3 up3 => ?_
    have j3 : Inv X pins σ' H' { s' with heap := h3 } := jj.landed nb fl3.1 (up.trans up3) os ag
    obtain ⟨oe3, vs3, he3, hz3, hd3⟩ := fl3.there
    have nfr : a ∉ frs (X.env :: X.outer) := fun hm => by
      obtain ⟨_, o', e', hnf⟩ := fl3.2.2.1.mem hm
      rw [he3] at e'
      cases e'
      exact hnf _ hd3
    have nL : a ≠ X.env.locals := fun z => nfr (List.mem_filterMap.mpr ⟨X.env, .head _, by rw [hf, z]⟩)
    have nF : a ∉ X.fs := fun hm => by
      obtain ⟨e, he, q⟩ := List.mem_filterMap.mp hm
      exact nfr (List.mem_filterMap.mpr ⟨e, .tail _ he, q⟩)
    have s3 := j3.suite he3 hd3 na nL nF
    have go : ∀ {hs2 : List ExceptHandler} {l2 : Cla}, HdsAs X n hs2 l2 → wMas X.K i Wout D l2 cls d σ' H' → wpAny (model X.prog X.w) X.A (handleBy (.ref a) X.env hs2) (SP X pins D) X.xe { s' with heap := h3 } := by
      intro hs2 l2 hk
      induction hk with
      | nil =>
        intro w2
        refine wpAny_handleBy_nil ?_
        obtain ⟨k1, k2, k3, oe, vs, T, oT, tt, he, hz, hd, h1, hr⟩ := id fl3
        unfold PySem.passOn
        refine wpAny_bind (wpAny_field he hd h1 ?_)
        rw [if_neg (show ¬ ((Value.ref T == Value.none) = true) by simp)]
        have fin : wpAny (model X.prog X.w) X.A (setFlight (.ref a) X.env.frame) (fun _ z4 => wpAny (model X.prog X.w) X.A (throw (.ref a) : Sem Flow) (SP X pins D) X.xe z4) X.xe { s' with heap := h3 } := by
          rw [hf]
          exact HandSPX.setFlight_upZ fl3 fun h4 hh4 up4 => wpAny_throw (tk _ _ ⟨a, B, sI, pins, σ', H', cls, d, rfl, jj, nb, (up.trans up3).trans up4, .inr (.inr (by rw [hs]; exact hh4)), na, os, ag, w2⟩)
        first | exact wpAny_bind (wpAny_pure (wpAny_bind fin)) | exact wpAny_bind fin
      | @cons x c ts b0 suite np pos' hds2 l2 hc hsu r ih =>
        rintro ⟨b, hb1, hyes, hno⟩
        refine wpAny_handleBy_cons (codeAny_handlers_test ?_) (by intro q; cases q)
        have lt3 : PySem.W.Looks (model X.prog X.w) h3 (typeOf (.ref a)) cls := fun _ _ _ _ k q => wpAny_typeOf_ref (k _ _ he3) (by rw [hz3.1]; exact q)
        have lm := PySem.W.exm_one (M := model X.prog X.w) (j3.kIn) lt3 hb1
        have test : ∀ {Q : Value → Shared → Prop} {E : Value → Shared → Prop}, Q c { s' with heap := h3 } → wpAny (model X.prog X.w) (X.A.mark (some (.ref a))) (eval (.Name x np) X.env) Q E { s' with heap := h3 } := by
          intro Q E q
          obtain ⟨hg, hdbg, hm | ⟨hm, hv, hnn⟩⟩ := hc
          · exact ld_glob (X := X.suite a ((a, oe3) :: (X.pn ++ pins))) s3 hg hm q hdbg
          · exact ld_blt (X := X.suite a ((a, oe3) :: (X.pn ++ pins))) s3 hg hm hv q hnn hdbg
        refine test (lm.here ?_)
        cases b with
        | false => exact ih (hno rfl)
        | true =>
          refine codeAny_handlers_suite_as (HandSPX.lands_againZ fl3 fun h4 fl4 up4 => ?_)
          have j4 : Inv X pins σ' H' { s' with heap := h4 } := jj.landed nb fl4.1 ((up.trans up3).trans up4) os ag
          obtain ⟨oe4, vs4, he4, hz4, hd4⟩ := fl4.there
          have s4 := j4.suite he4 hd4 na nL nF
          refine store_ok (X := X.suite a ((a, oe4) :: (X.pn ++ pins))) (v := .ref a) s4 hN hi (.inl hln) rfl (fun s5 i5 => ?_) (.inr hln)
          refine wpAny_mono ((hsu a oe4 cls d (X.pn ++ pins) hz4 ⟨_, hd4⟩).run [] s5 _ H' _ i5 (hyes rfl a na)) (fun f s6 hsp => ?_) (fun _ _ z => False.elim z)
          have gone : ∀ {σ6 : St} {H6 : Hp} {Q : Shared → Prop}, Inv (X.suite a ((a, oe4) :: (X.pn ++ pins))) [] σ6 H6 s6 → (∀ s7, Inv X pins (σ6.set i none) H6 s7 → Q s7) →
              wpAny (model X.prog X.w) X.A (do bindName X.env n .none; unbindBehindTheSuite X.env n pos') (fun _ s7 => Q s7) X.xe s6 := fun {σ6 H6 Q} i6 hq => gone_ok (i6.unsuite ok) hN hi hln hq
          cases f with
          | ret u =>
            obtain ⟨v6, σ6, H6, i6, r6, q6⟩ := hsp
            exact gone i6 fun s7 i7 => ⟨_, _, _, i7, r6, q6⟩
          | next =>
            obtain ⟨σ6, H6, i6, q6⟩ := hsp
            exact gone i6 fun s7 i7 => ⟨_, _, i7, q6⟩
          | brk =>
            obtain ⟨σ6, H6, i6, q6⟩ := hsp
            exact gone i6 fun s7 i7 => ⟨_, _, i7, q6⟩
          | cont =>
            obtain ⟨σ6, H6, i6, q6⟩ := hsp
            exact gone i6 fun s7 i7 => ⟨_, _, i7, q6⟩
    exact go hh w
  · cases f with
    | ret u =>
      obtain ⟨v, σ', H', j1, r, q⟩ := hsp
      exact ⟨v, σ', H', j1.ofTry ok, r, q⟩
    | next =>
      obtain ⟨σ', H', j1, q⟩ := hsp
      exact wpAny_execs_nil ⟨σ', H', j1.ofTry ok, q⟩
    | brk =>
      obtain ⟨σ', H', j1, q⟩ := hsp
      exact ⟨σ', H', j1.ofTry ok, q⟩
    | cont =>
      obtain ⟨σ', H', j1, q⟩ := hsp
      exact ⟨σ', H', j1.ofTry ok, q⟩⟩
end
end L2
/-! readings where an exception may leave: the wish is carried along -/
namespace Dz
open PySem PySem.Spec PyProof.Rows L2
abbrev WD := Value → List (Str × D) → Ev → Sg → Prop
def PostW (K : PySem.W.Frag) (H : Hp) (s0 : Sg) (Wd : WD) (W : WX) : Prop := ∀ cls fs env s d σ H', Wd cls fs env s → Stp H s0 H' s → MRep K H' s → REnv K H' env σ → FldAt K H' d fs → W cls d σ H'
theorem PostW.ext {K : PySem.W.Frag} {H H1 : Hp} {s0 s1 : Sg} {Wd : WD} {W : WX} (e : Stp H s0 H1 s1) (p : PostW K H s0 Wd W) : PostW K H1 s1 Wd W := fun c fs env s d σ H' a b m r q => p c fs env s d σ H' a (e.trans b) m r q
def liftEW (K : PySem.W.Frag) (W : WX) (t : WD → DE) : TE := fun σ H Q => ∃ env s R Wd, REnv K H env σ ∧ MRep K H s ∧ t Wd env s R ∧ Post K H s R Q ∧ PostW K H s Wd W
def liftTW (K : PySem.W.Frag) (W : WX) (t : WD → DT) : TT := fun σ H Q => ∃ env s R Wd, REnv K H env σ ∧ MRep K H s ∧ t Wd env s R ∧ PostB K H s R Q ∧ PostW K H s Wd W
def liftAW (K : PySem.W.Frag) (W : WX) (t : WD → DA) : TA := fun σ H Q => ∃ env s R Wd, REnv K H env σ ∧ MRep K H s ∧ t Wd env s R ∧ PostA K H s R Q ∧ PostW K H s Wd W
def liftSW (K : PySem.W.Frag) (W : WX) (t : WD → DS) : TS := fun D σ H => ∃ env s DD Wd, REnv K H env σ ∧ MRep K H s ∧ t Wd DD env s ∧ PostD K H s DD D ∧ PostW K H s Wd W
abbrev PX (X : Cx) (W : WX) (e : Expr) (t : WD → DE) : Prop := PE X e (liftEW X.K W t)
abbrev PXT (X : Cx) (W : WX) (e : Expr) (t : WD → DT) : Prop := PT X e (liftTW X.K W t)
abbrev PXA (X : Cx) (W : WX) (es : List Expr) (t : WD → DA) : Prop := PA X es (liftAW X.K W t)
abbrev PXS (X : Cx) (W : WX) (st : Stmt) (t : WD → DS) : Prop := PS X st (liftSW X.K W t)
abbrev PXSs (X : Cx) (W : WX) (st : List Stmt) (t : WD → DS) : Prop := PSs X st (liftSW X.K W t)
section
variable {X : Cx} {W : WX} {pos : Pos}
theorem px_of {e : Expr} {t : DE} (h : PD X e t) : PX X W e (fun _ => t) := pe_imp h fun σ H Q ⟨env, s, R, _, h1, h2, h3, h4, _⟩ => ⟨env, s, R, h1, h2, h3, h4⟩
theorem pxt_of {e : Expr} {t : DT} (h : PDT X e t) : PXT X W e (fun _ => t) := pt_imp h fun σ H Q ⟨env, s, R, _, h1, h2, h3, h4, _⟩ => ⟨env, s, R, h1, h2, h3, h4⟩
theorem pxa_of {e : List Expr} {t : DA} (h : PDA X e t) : PXA X W e (fun _ => t) := pa_imp h fun σ H Q ⟨env, s, R, _, h1, h2, h3, h4, _⟩ => ⟨env, s, R, h1, h2, h3, h4⟩
theorem pxs_of {st : Stmt} {t : DS} (h : PDS X st t) : PXS X W st (fun _ => t) := ps_imp h fun D σ H ⟨env, s, DD, _, h1, h2, h3, h4, _⟩ => ⟨env, s, DD, h1, h2, h3, h4⟩
theorem pxss_of {st : List Stmt} {t : DS} (h : PDSs X st t) : PXSs X W st (fun _ => t) := pss_imp h fun D σ H ⟨env, s, DD, _, h1, h2, h3, h4, _⟩ => ⟨env, s, DD, h1, h2, h3, h4⟩
/-! ### statements -/
theorem pxs_cons {st : Stmt} {rest : List Stmt} {t u : WD → DS} (h : PXS X W st t) (hr : PXSs X W rest u) : PXSs X W (st :: rest) (fun w => dSeq (t w) (u w)) :=
  pss_imp (pss_cons h hr) fun D σ H ⟨env, s, DD, Wd, h1, h2, h3, h4, h5⟩ => ⟨env, s, { DD with nx := u Wd DD }, Wd, h1, h2, h3, ⟨fun env' s' σ' H' q e m r => ⟨env', s', DD, Wd, r, m, q, h4.ext e, h5.ext e⟩, h4.rt, h4.bk, h4.ct⟩, h5⟩
theorem pxs_one {st : Stmt} {t : WD → DS} (h : PXS X W st t) : PXSs X W [st] t := pss_one h
theorem pxs_ret {e : Expr} {te : WD → DE} (h : PX X W e te) : PXS X W (.Return (some e) pos) (fun w => dRet (te w)) := ps_imp (ps_ret h) fun D σ H ⟨env, s, DD, Wd, h1, h2, h3, h4, h5⟩ => ⟨env, s, _, Wd, h1, h2, h3, h4.rt, h5⟩
theorem pxs_expr {e : Expr} {te : WD → DE} (h : PX X W e te) (hs : swapsWith e none pos.line X.env = pure false := by rfl) : PXS X W (.Expr e pos) (fun w => dExpr (te w)) :=
  ps_imp (ps_expr h hs) fun D σ H ⟨env, s, DD, Wd, h1, h2, h3, h4, h5⟩ => ⟨env, s, _, Wd, h1, h2, h3, fun w s1 v H1 q e m r => h4.nx env s1 σ H1 q e m (h1.ext e.ext), h5⟩
theorem pxs_if {c : Expr} {a b : List Stmt} {tc : WD → DT} {t u : WD → DS} (hc : PXT X W c tc) (ha : PXSs X W a t) (hb : PXSs X W b u) : PXS X W (.If c a b pos) (fun w => dIf (tc w) (t w) (u w)) :=
  ps_imp (ps_if hc ha hb) fun D σ H ⟨env, s, DD, Wd, h1, h2, h3, h4, h5⟩ => ⟨env, s, _, Wd, h1, h2, h3, fun b s1 H1 q e m => by
    cases b with
    | true => rw [if_pos rfl] at q ⊢; exact ⟨env, s1, DD, Wd, h1.ext e.ext, m, q, h4.ext e, h5.ext e⟩
    | false => rw [if_neg Bool.false_ne_true] at q ⊢; exact ⟨env, s1, DD, Wd, h1.ext e.ext, m, q, h4.ext e, h5.ext e⟩, h5⟩
theorem pxs_set {i : Nat} {x : Str} {e : Expr} {te : WD → DE} {pos' : Pos} (hN : X.N.Nodup) (hi : X.N[i]? = some x) (hx : Loc X.env.scope x) (he : PX X W e te) (hs : swapsWith e (some (.Name x pos')) pos.line X.env = pure false := by rfl)
    (hf : X.fn x = true ∨ X.env.scope.names.lookup x = some .local := by first | exact .inl rfl | exact .inr rfl | assumption) : PXS X W (.Assign [.Name x pos'] e pos) (fun w => dSet i (te w)) :=
  ps_imp (ps_set hN hi hx he hs hf) fun D σ H ⟨env, s, DD, Wd, h1, h2, h3, h4, h5⟩ => ⟨env, s, _, Wd, h1, h2, h3, fun w s1 v H1 q e m r => h4.nx _ s1 _ H1 q e m ((h1.ext e.ext).set i r), h5⟩
theorem pxs_asg {tg e : Expr} {te : WD → DE} {g : DG} (he : PX X W e te) (hg : PDG X tg g) (hs : swapsWithSole [tg] e pos.line X.env = pure false := by rfl) (hw : swappedStores [tg] e X.env = pure none := by rfl)
    (h1 : (assignEach [tg] X.env).map (·.2) = [assign tg X.env] := by rfl) : PXS X W (.Assign [tg] e pos) (fun w => dAsg (te w) g) :=
  ps_imp (ps_asg he hg hs hw h1) fun D σ H ⟨env, s, DD, Wd, h1, h2, h3, h4, h5⟩ => ⟨env, s, _, Wd, h1, h2, h3, fun w s1 v H1 q e m r => ⟨w, env, s1, _, r, h1.ext e.ext, m, q, h4.nx.ext e⟩, h5⟩
theorem pxs_for {tg iter : Expr} {body : List Stmt} {ti : DI} {g : DG} {tb : WD → DS} {pos : Pos} (hp : PassesOwn (model X.prog X.w) X.A X.env X.xe) (hc : X.calm = true) (hi : PDI X tg iter ti) (hg : PDG X tg g) (hb : PXSs X W body tb)
    (hs : ∀ x, foldedSetIterable iter X.env x = pure x := by intro _; rfl) : PXS X W (.For tg iter body [] pos) (fun w => dFor ti g (tb w)) :=
  ps_imp (ps_for hp hc hi hg hb hs) fun D σ H ⟨env, s, DD, Wd, h1, h2, h3, h4, h5⟩ => ⟨env, s, _, h1, h2, h3, fun w ws s1 H1 J q e1 m1 hw ok => by
    refine ⟨fun i m σ' H' => m = ws.length - i ∧ i ≤ ws.length ∧ ∃ env' s', REnv X.K H' env' σ' ∧ MRep X.K H' s' ∧ Stp H1 s1 H' s' ∧ dForL w ws g (tb Wd) DD (ws.drop i) env' s',
      ⟨_, rfl, Nat.zero_le _, env, s1, h1.ext e1.ext, m1, .refl _ _, q⟩, ?_⟩
    rintro i m σ' H' ⟨rfl, hi, env', s', r', m', e', q'⟩
    obtain ⟨o1, o2⟩ := ok H' s' e'.ext m' (dForL_alive q') i
    by_cases hlt : i < ws.length
    · obtain ⟨go, yl⟩ := o1 ws[i] (by simp [hlt])
      rw [List.drop_eq_getElem_cons hlt] at q'
      refine .inr ⟨go, fun σ2 H2 => ∃ env2 s2, REnv X.K H2 env2 σ2 ∧ MRep X.K H2 s2 ∧ Stp H1 s1 H2 s2 ∧ dForL w ws g (tb Wd) DD (ws.drop (i + 1)) env2 s2, fun σ2 H2 z => ⟨ws.length - (i + 1), by omega, rfl, hlt, z⟩, fun v H2 y => ?_⟩
      obtain ⟨rv, e2, m2, _⟩ := yl v H2 y
      have e3 := e'.trans e2
      refine ⟨ws[i], env', s', _, rv, r'.ext e2.ext, m2, q'.2, fun env2 s2 σ2 H3 q2 e4 m4 r4 => ?_⟩
      exact ⟨env2, s2, _, Wd, r4, m4, q2, ⟨fun env5 s5 σ5 H5 q5 e5 m5 r5 => ⟨env5, s5, r5, m5, (e3.trans e4).trans e5, q5⟩, h4.rt.ext (e1.trans (e3.trans e4)), h4.nx.ext (e1.trans (e3.trans e4)), fun env5 s5 σ5 H5 q5 e5 m5 r5 => ⟨env5, s5, r5, m5, (e3.trans e4).trans e5, q5⟩⟩, h5.ext (e1.trans (e3.trans e4))⟩
    · have ei : i = ws.length := by omega
      subst ei
      rw [List.drop_length] at q'
      exact .inl ⟨o2 (Nat.le_refl _), h4.nx env' s' σ' H' q'.2 (e1.trans e') m' r'⟩⟩
/-! ### expressions -/
theorem pxa_cons {e : Expr} {es : List Expr} {t : WD → DE} {u : WD → DA} (h : PX X W e t) (hr : PXA X W es u) (hs : starEach (e :: es) X.env = (false, eval e X.env) :: starEach es X.env := by rfl) : PXA X W (e :: es) (fun w => dCons (t w) (u w)) :=
  pa_imp (pa_cons h hr hs) fun σ H Q ⟨env, s, R, Wd, h1, h2, h3, h4, h5⟩ => ⟨env, s, _, Wd, h1, h2, h3, fun x s1 v H1 q e1 m1 r1 => ⟨env, s1, _, Wd, h1.ext e1.ext, m1, q, fun xs s2 vs H2 q2 e2 m2 r2 => h4 _ s2 _ H2 q2 (e1.trans e2) m2 ⟨v, vs, rfl, Rep.ext e2.ext _ _ r1, r2⟩, h5.ext e1⟩, h5⟩
theorem px_op {a b : Expr} {op : Operator} {r : D2} {ta tb : WD → DE} (ho : OpR X (binaryOp op) (lift2 X.K r)) (ha : PX X W a ta) (hb : PX X W b tb) : PX X W (.BinOp a op b pos) (fun w => dOp r (ta w) (tb w)) :=
  pe_imp (pe_op ho ha hb) fun σ H Q ⟨env, s, R, Wd, h1, h2, h3, h4, h5⟩ => ⟨env, s, _, Wd, h1, h2, h3, fun x s1 v H1 q e1 m1 r1 => ⟨env, s1, _, Wd, h1.ext e1.ext, m1, q, fun y s2 u H2 q2 e2 m2 r2 => ⟨x, y, s2, R, Rep.ext e2.ext _ _ r1, r2, m2, q2, h4.ext (e1.trans e2)⟩, h5.ext e1⟩, h5⟩
theorem px_ifExp {a b c : Expr} {t : WD → DT} {ta tb : WD → DE} (hc : PXT X W c t) (ha : PX X W a ta) (hb : PX X W b tb) : PX X W (.IfExp c a b pos) (fun w => dIfE (t w) (ta w) (tb w)) :=
  pe_imp (pe_ifExp hc ha hb) fun σ H Q ⟨env, s, R, Wd, h1, h2, h3, h4, h5⟩ => ⟨env, s, _, Wd, h1, h2, h3, fun b s1 H1 q e1 m1 => by
    cases b with
    | true => rw [if_pos rfl] at q ⊢; exact ⟨env, s1, R, Wd, h1.ext e1.ext, m1, q, h4.ext e1, h5.ext e1⟩
    | false => rw [if_neg Bool.false_ne_true] at q ⊢; exact ⟨env, s1, R, Wd, h1.ext e1.ext, m1, q, h4.ext e1, h5.ext e1⟩, h5⟩
end
end Dz
namespace Dz
open PySem PySem.Spec PyProof.Rows L2
section
variable {X : Cx} {W : WX} {pos : Pos}
theorem px_tup {es : List Expr} {t : WD → DA} {k : Nat} (h : PXA X W es t) : PX X W (.Tuple es k pos) (fun w => dTup (t w)) :=
  pe_imp (pe_tupN h) fun σ H Q ⟨env, s, R, Wd, h1, h2, h3, h4, h5⟩ => ⟨env, s, _, Wd, h1, h2, h3, fun ws s1 vs H1 ⟨l, q⟩ e1 m1 r1 => ⟨by rw [← r1.len]; exact Nat.le_trans l mil, fun p o hp ho =>
    h4 (.tup ws) s1 (.ref p) _ q (e1.trans (.new hp)) (m1.new hp) ⟨p, vs, rfl, .new ho, Reps.ext (.new hp) _ _ r1⟩⟩, h5⟩
theorem px_lstF {es : List Expr} {t : WD → DA} (h : PXA X W es t) : PX X W (.List es pos) (fun w => dF (dSz (t w))) :=
  pe_imp (pe_frz (pe_lst h)) fun σ H Q ⟨env, s, R, Wd, h1, h2, h3, h4, h5⟩ => ⟨env, s, _, Wd, h1, h2, h3, fun ws s1 vs H1 ⟨l, q⟩ e1 m1 r1 => ⟨by rw [← r1.len]; exact Nat.le_trans l mil, fun p hp => ⟨p, _, rfl, upd_same, trivial, fun o => by
    rw [upd_upd]
    exact h4 (.lst ws) s1 (.ref p) _ q (e1.trans (.new hp)) (m1.new hp) ⟨p, vs, rfl, .inl (.inr ⟨o, fz_frz upd_same⟩), Reps.ext (.new hp) _ _ r1⟩⟩⟩, h5⟩
theorem px_lstM {es : List Expr} {t : WD → DA} (h : PXA X W es t) : PX X W (.List es pos) (fun w => dM (dSz (t w))) :=
  pe_imp (pe_lst h) fun σ H Q ⟨env, s, R, Wd, h1, h2, h3, h4, h5⟩ => ⟨env, s, _, Wd, h1, h2, h3, fun ws s1 vs H1 ⟨l, q⟩ e1 m1 r1 => ⟨by rw [← r1.len]; exact Nat.le_trans l mil, fun p hp =>
    h4 (.ref p) _ (.ref p) _ (q p (m1.free hp)) (e1.trans (.put (.inl hp))) (m1.write (.inl hp) (fun _ => nofun) ⟨vs, upd_same, Reps.ext (.new hp) _ _ r1⟩) rfl⟩, h5⟩
theorem px_append {o a : Expr} {to : DE} {ta : WD → DE} {apos cpos : Pos} (ho : PD X o to) (ha : PX X W a ta) (hbase : attributeBase o "append" X.env (eval o X.env) = eval o X.env := by rfl)
    (hfew : ((backTo cpos (starEach [a] X.env)).all (fun x => !x.1) && (backToKw cpos (keywordEach [] X.env)).all (fun x => x.1.isSome) && decide (([a] : List Expr).length + ([] : List Keyword).length + (if ([] : List Keyword).isEmpty then 0 else 1) < 30)) = true := by rfl)
    (hline : (apos.endLine == cpos.line) = true := by rfl) (hs : starEach [a] X.env = (false, eval a X.env) :: starEach [] X.env := by rfl) :
    PX X W (.Call (.Attribute o "append" apos) [a] [] cpos) (fun w => dAppend to (ta w)) :=
  pe_imp (pe_bm PySem.F.plainAttrs_list PySem.F.slot_list_append PySem.F.type_list_append mt_append (px_of (W := W) ho) (pxa_cons ha (pxa_of pda_nil) hs) hbase hfew hline hs) fun σ H Q ⟨env, s, R, Wd, h1, h2, h3, h4, h5⟩ => by
    refine ⟨env, s, _, Wd, h1, h2, h3, fun x s1 v H1 q e1 m1 r1 => ?_, h5⟩
    obtain ⟨l, ws, rfl, hm, q⟩ := trk_ok q
    cases (show v = .ref l from r1)
    refine ⟨ty_trk m1 hm, env, s1, (fun zs s2 => match zs with
      | [y] => trk (.ref l) s2 fun l ws => ws.length < 1000000 ∧ R .non (s2.put l (.lst (ws ++ [y])))
      | _ => False), Wd, h1.ext e1.ext, m1, q, fun zs s3 us H3 q3 e3 m3 r3 => ?_, h5.ext e1⟩
    dsimp only at q3
    split at q3
    · rename_i y
      obtain ⟨u, ur, rfl, r2, r4⟩ := r3
      cases (show ur = [] from r4)
      obtain ⟨l', ws', e, hm3, c1, c2⟩ := trk_ok q3
      cases e
      obtain ⟨ts, z1, z2⟩ := m3.at_ l _ hm3
      have rs := Reps.append z2 (show Reps X.K H3 [y] [u] from ⟨u, [], rfl, r2, rfl⟩)
      obtain ⟨n1, n2⟩ := mrep_put m3 hm3 rs
      exact ⟨l, ts, u, rfl, rfl, z1, by rw [← z2.len]; exact mil1 c1, h4 _ _ _ _ c2 ((e1.trans e3).trans n2) n1 rfl⟩
    · exact q3.elim
/-! ### calls -/
/-- a def that raises nothing, of arguments that may -/
theorem px_callA {k : Nat} {x : Str} {ps : List Str} {sp : SpD} {p : Pos} {e : Expr} {es : List Expr} {t : WD → DA} (F : Df X.prog X.w X.K X.mg X.base CX0 k x ps sp) (hr : Room k X.A) (hgd : X.A.guards = some []) (hg : Gl X x) (ha : PXA X W (e :: es) t)
    (hdb : (x == ("__debug__" : Str)) = false := by decide) (he : starEach (e :: es) X.env = (false, eval e X.env) :: starEach es X.env := by rfl) (hpl : (backTo pos (starEach es X.env)).any (·.1) = false := by rfl) :
    PX X W (.Call (.Name x p) (e :: es) [] pos) (fun w => dCall sp (t w)) := by
  obtain ⟨f, fd, hm, hk, hb, G⟩ := F.ex
  refine pe_imp (pe_callG (E := E0) G hr hgd hg hm hk hb .nil pass0 ha hdb he hpl) fun σ H Q ⟨env, s, R, Wd, h1, h2, h3, h4, h5⟩ => ?_
  refine ⟨env, s, _, Wd, h1, h2, h3, fun ws s1 vs H1 q e1 m1 r1 => ?_, h5⟩
  show liftSp X.K sp (vs ++ []) H1 Q E0
  rw [List.append_nil]
  exact ⟨ws, s1, R, X0, r1, m1, q, h4.ext e1, postX0⟩
abbrev CXd (P : Program) (w : World) : CXT := L2.CX P w
/-- a def that may raise, called where it does not -/
theorem pass_no : Passes (CXd X.prog X.w) X E0 := fun _ _ _ _ _ _ _ ⟨_, _, _, _, _, _, _, _, _, _, _, _, h⟩ => h.elim
theorem pd_callN {k : Nat} {x : Str} {ps : List Str} {sp : SpD} {p : Pos} {e : Expr} {es : List Expr} {t : DA} (F : Df X.prog X.w X.K X.mg X.base (CXd X.prog X.w) k x ps sp) (hr : Room k X.A) (hgd : X.A.guards = some []) (hg : Gl X x) (ha : PDA X (e :: es) t)
    (hdb : (x == ("__debug__" : Str)) = false := by decide) (he : starEach (e :: es) X.env = (false, eval e X.env) :: starEach es X.env := by rfl) (hpl : (backTo pos (starEach es X.env)).any (·.1) = false := by rfl) :
    PD X (.Call (.Name x p) (e :: es) [] pos) (dCall sp t) := by
  obtain ⟨f, fd, hm, hk, hb, G⟩ := F.ex
  refine pe_imp (pe_callG (E := E0) G hr hgd hg hm hk hb .nil pass_no ha hdb he hpl) fun σ H Q ⟨env, s, R, h1, h2, h3, h4⟩ => ?_
  refine ⟨env, s, _, h1, h2, h3, fun ws s1 vs H1 q e1 m1 r1 => ?_⟩
  show liftSp X.K sp (vs ++ []) H1 Q E0
  rw [List.append_nil]
  exact ⟨ws, s1, R, X0, r1, m1, q, h4.ext e1, postX0⟩
/-- a def that may raise -/
def dCallX (w : WD) (sp : SpD) (t : DA) : DE := fun env s R => t env s fun ws s1 => sp ws s1 R fun cls fs s2 => w cls fs env s2
theorem run_fnGS {CX : CXT} {k : Nat} {f : Addr} {fd : FuncData} {ps : List Str} {sp : Sp} {E : XK} {pins : List (Addr × Obj)} {σ : L2.St} {H : Hp} {s : Shared} {Q : VK} {us : List Value} {vs : List V} (F : FnG X.prog X.w X.K X.mg X.base CX k f fd ps sp) (hr : Room k X.A) (hg : X.A.guards = some []) (hb : Binds X.K fd ps []) (hx : PassesAt CX X σ E)
    (I : Inv X pins σ H s) (r : Vals vs us) (h : sp vs H Q E) : wpAny (model X.prog X.w) X.A (call (.ref f) us) (EP X pins σ Q) X.xe s := by
  have hl : (us ++ []).length = ps.length := by rw [List.append_nil]; exact r.length.symm.trans (F.len _ _ _ _ h)
  have hbd := hb s us I.kIn hl
  rw [List.append_nil] at hbd
  refine wpAny_call (codeAny_mono (F.run X.A X.stack s H ⟨us, []⟩ _ _ Q E hr hg I.env0 hbd r h) ?_)
  rintro (e | (_ | _ | _ | u)) s' hq
  · exact hx pins H s e s' I hq
  all_goals first
    | exact I.after hq
    | exact False.elim hq
theorem px_call {k : Nat} {x : Str} {ps : List Str} {sp : SpD} {p : Pos} {e : Expr} {es : List Expr} {t : WD → DA} (tk : Takes X W) (F : Df X.prog X.w X.K X.mg X.base (CXd X.prog X.w) k x ps sp) (hr : Room k X.A) (hgd : X.A.guards = some []) (hg : Gl X x) (ha : PXA X W (e :: es) t)
    (hdb : (x == ("__debug__" : Str)) = false := by decide) (he : starEach (e :: es) X.env = (false, eval e X.env) :: starEach es X.env := by rfl) (hpl : (backTo pos (starEach es X.env)).any (·.1) = false := by rfl) :
    PX X W (.Call (.Name x p) (e :: es) [] pos) (fun w => dCallX w sp (t w)) := by
  obtain ⟨f, fd, hm, hk, hb, G⟩ := F.ex
  refine ⟨fun pins s σ H Q I h => wpAny_Call_Name_kw (ld_glob I hg hm (PySem.W.callWith_K (h₀ := X.base) I.ok.mod.kin hk (thn (ha.run pos pins s σ H (fun vs H1 => liftSp X.K sp vs H1 Q fun c d H2 => W c d σ H2) I ?_) fun us s1 ⟨vs, H1, I1, r, q⟩ => ⟨I1.kIn, run_fnGS G hr hgd hb (passAt tk σ) I1 r q⟩) he hpl) hdb)⟩
  obtain ⟨env, sg, R, Wd, h1, h2, h3, h4, h5⟩ := h
  exact ⟨env, sg, _, Wd, h1, h2, h3, fun ws s1 vs H1 q e1 m1 r1 => ⟨ws, s1, R, _, r1, m1, q, h4.ext e1, fun c fs s2 d H2 w2 e2 m2 f2 => h5 c fs env s2 d σ H2 w2 (e1.trans e2) m2 (h1.ext (e1.trans e2).ext) f2⟩, h5⟩
end
/-! ### a def that may raise -/
def LwX (E : XD) : XD := fun c fs s => ∃ s', Clo s s' ∧ E c fs s'
theorem LwX.of {E : XD} {c : Value} {fs : List (Str × D)} {s : Sg} (h : E c fs s) : LwX E c fs s := ⟨s, .refl s, h⟩
theorem df_ofX {P : Program} {w : World} {K : PySem.W.Frag} {mg : Str → Option Value} {base : Heap} {k : Nat} {f : Addr} {fd : FuncData} {x qual : Str} {params : Arguments} {body : List Stmt} {scope : Scope} {kws : List (Str × V)} {N ps : List Str} {sp : SpD} {tb : WD → DS}
    (F : FunD K x qual params body scope [] kws f fd) (S : FnScope N ps scope) (hm : mg x = some (.ref f)) (hb : Binds K fd ps [])
    (body_ok : ∀ (cdv : Value) (A : Around) (outer : List Env) (s : Shared) (H : Hp) (E : XK), Room k (A.deeper (envOfC qual scope s.heap.objs.size f cdv)) → (A.deeper (envOfC qual scope s.heap.objs.size f cdv)).guards = some [] → PXSs (cxOf (CXd P w) P w K mg base N qual scope f cdv A outer s H E) (fun c d _ H' => E c d H') body tb)
    (sem : ∀ ws s R E, sp ws s R E → ws.length = ps.length ∧ tb (fun c fs _ s' => LwX E c fs s') { nx := fun _ s' => Lw R .non s', rt := Lw R } (startD N ws) s) : Df P w K mg base (CXd P w) (k + 1) x ps sp := by
  refine ⟨f, fd, hm, F.kp, hb, fnG_of F S (fun vs H Q E ⟨ws, s, R, E', h1, h2, h3, h4, h5⟩ => by rw [← h1.len]; exact (sem ws s R E' h3).1) fun cdv A outer s0 H vs Q E hr hg ⟨ws, s, R, E', h1, h2, h3, h4, h5⟩ => ?_⟩
  have q := (sem ws s R E' h3).2
  have h6 := h4.lw
  exact ⟨_, body_ok cdv A outer s0 H E hr hg, startD N ws, s, _, _, renv_start h1, h2, q, ⟨fun env s' σ H' q e m r => h6 .non s' _ H' q e m rfl, h6, fun _ _ _ _ q => q.elim, fun _ _ _ _ q => q.elim⟩, fun c fs env s' d σ H' ⟨s2, l, z⟩ e m r fl => by
    obtain ⟨m1, e1⟩ := l K H' m
    exact h5 c fs s2 d H' z (e.trans e1) m1 fl⟩
/-- the start of a recursion -/
theorem df_falseX {P : Program} {w : World} {K : PySem.W.Frag} {mg : Str → Option Value} {base : Heap} {k : Nat} {f : Addr} {fd : FuncData} {x qual : Str} {params : Arguments} {body : List Stmt} {scope : Scope} {kws : List (Str × V)} {ps : List Str} {sp : SpD}
    (F : FunD K x qual params body scope [] kws f fd) (hm : mg x = some (.ref f)) (hb : Binds K fd ps []) (no : ∀ ws s R E, ¬ sp ws s R E) : Df P w K mg base (CXd P w) k x ps sp :=
  ⟨f, fd, hm, F.kp, hb, ⟨fun vs H Q E ⟨ws, s, R, E', h1, h2, h3, h4, h5⟩ => absurd h3 (no ws s R E'), fun A outer s H args us vs Q E hr hg he hb hv ⟨ws, s', R, E', h1, h2, h3, h4, h5⟩ => absurd h3 (no ws s' R E')⟩⟩
end Dz
/-! an own exception of one field: made, raised, its field read -/
namespace PySem
namespace XcD
open PySem.W PySem.Calls PyProof.Rows PySem.HandSPX L2 Builtin Builtin.ObjectAttr
abbrev xiA (f : Str) (p1 p2 : Pos) : Arguments := { posonlyargs := [], args := [{ arg := "self", annotation := none, pos := p1 }, { arg := f, annotation := none, pos := p2 }], vararg := none, kwonlyargs := [], kw_defaults := [], kwarg := none, defaults := [] }
abbrev xiB (f : Str) (q1 q2 q3 q4 : Pos) : List Stmt := [.Assign [.Attribute (.Name "self" q1) f q2] (.Name f q3) q4]
abbrev xiS (f : Str) : Scope := { kind := .function, names := [(PySem.Str.ofString "self", .local), (f, .local)], isGenerator := false, isCoroutine := false, more := [] }
/-- which built-in class stands behind -/
structure Tl (B newId initId : String) (tl : List Value) : Prop where
  base : ExcBaseFacts B newId initId tl
  st : StoreFacts B tl "object.__setattr__" "object"
theorem tlV : Tl "ValueError" "ValueError.__new__" "ValueError.__init__" [.type "ValueError", .type "Exception", .type "BaseException", .type "object"] := ⟨F.excBase_ValueError, F.store_ValueError⟩
theorem tlL : Tl "LookupError" "LookupError.__new__" "LookupError.__init__" [.type "LookupError", .type "Exception", .type "BaseException", .type "object"] := ⟨F.excBase_LookupError, F.store_LookupError⟩
/-- what the written part says of a class C of one field f; its __init__ is fI -/
structure XTxt (K : Frag) (mg : Str → Option Value) (x f : Str) (newId : String) (tl : List Value) (C fI : Addr) : Prop where
  gC : mg x = some (.ref C)
  ini : excInitIn K C tl newId = true
  ovr : excOver K C tl = true
  sa : findIn K (.ref C) "__setattr__" = some (some (.builtin "object.__setattr__"))
  noN : findIn K (.ref C) f = some none
  iC : findIn K (.ref C) "__init__" = some (some (.ref fI))
  tC : typeIn K (.ref fI) = some (.type "function")
  kC : keepIn K (.ref C) = true
  exC : subIn K (.ref C) (.type "BaseException") = some true
  tyC : typeIn K (.ref C) = some (.type "type")
  hdC : hasDictIn K C = true
structure XIni (K : Frag) (f qn : Str) (fI : Addr) : Prop where
  ex : ∃ fd p1 p2 q1 q2 q3 q4, FunD K "__init__" qn (xiA f p1 p2) (xiB f q1 q2 q3 q4) (xiS f) [] [] fI fd
  sf : f ≠ "self"
  db : (f == ("__debug__" : Str)) = false
  bd : ∀ p1 p2 q1 q2 q3 q4 kV doc pm an cdv ct u v, bindArgs (fnOf "__init__" qn (xiA f p1 p2) (xiB f q1 q2 q3 q4) (xiS f) .none kV doc pm an cdv ct) ⟨[u, v], []⟩ = pure [(("self" : Str), u), (f, v)]
theorem one_size (v : Value) : [v].length ≤ sizeLine := by
  rw [sizeLine_eq]
  exact (by decide : 1 ≤ 16777216)
theorem ldC {M : Model} {s : Shared} {name : Str} {scope : Scope} {L a : Addr} {cd : Value} {m : Str → Option Value} {x : Str} {pos : Pos} {v : Value} {Q : Value → Shared → Prop} {A : Around} {E : Value → Shared → Prop} (hn : s.heap.Ns L m) (hv : m x = some v) (h : Q v s)
    (hk : scope.kind = .function) (hl : (envOfC name scope L a cd).kindOf x = some .local) (hd : (x == ("__debug__" : Str)) = false) :
    wpAny M A (eval (.Name x pos) (envOfC name scope L a cd)) Q E s := wpAny_Name (wpAny_loadName_local hk hl hn hv h) hd
/-- what __init__ leaves of a fresh exception at x -/
structure InitEnd (f : Str) (h h' : Heap) (x C dx t1 : Addr) (v : Value) : Prop where
  keep : ∀ b o, b ≠ x → h.get? b = some o → h'.get? b = some o
  obj : h'.get? x = some { cls := .ref C, dict := some dx, data := .fields #[.ref t1, .none, .none, .none, .bool false, .none] }
  dbig : h.objs.size ≤ dx
  dne : dx ≠ x
  ns : h'.Ns1 dx (fun y => if y = f then some v else none)
structure OwnMade (f : Str) (h h' : Heap) (e C d : Addr) (v : Value) : Prop where
  keep : ∀ b o, h.get? b = some o → h'.get? b = some o
  new : h.objs.size ≤ e
  obj : ∃ oe vs, h'.get? e = some oe ∧ oe.cls = .ref C ∧ oe.dict = some d ∧ oe.data = .fields vs ∧ vs[1]? = some .none
  dbig : h.objs.size ≤ d
  dne : d ≠ e
  ns : h'.Ns1 d (fun y => if y = f then some v else none)
section
variable {prog : Program} {w : World} {A : Around} {E : Value → Shared → Prop} {R : Result → Shared → Prop} {s : Shared} {K : Frag} {mg : Str → Option Value} {C fI : Addr} {x f qn : Str} {B newId initId : String} {tl : List Value}
/-- the first field -/
theorem osaT {hp : Heap} {g : Array GenState} {d : Drawn} {t : Nat} {os : OsState} (SF : StoreFacts B tl "object.__setattr__" "object") {name : Str} {tk : Tok} {v : Value} {x : Addr} {fv : Array Value} (X : K.In hp) (hx : hp.get? x = some { cls := .ref C, data := .fields fv }) (ov : excOver K C tl = true) (hdC : hasDictIn K C = true) (ha : findIn K (.ref C) name = some none)
    (hq : ∀ h' tk' dx, (∀ b o, b ≠ x → hp.get? b = some o → h'.get? b = some o) → hp.objs.size ≤ dx → dx ≠ x → h'.get? x = some { cls := .ref C, dict := some dx, data := .fields fv } → h'.Ns1 dx (fun y => if y = name then some v else none) → R (.ok (.ret .none)) ⟨h', g, d, tk', os⟩) :
    codeAny (model prog w) A (.call (.builtin "object.__setattr__") ⟨[.ref x, .str name tk, v], []⟩) R ⟨hp, g, d, t, os⟩ := by
  refine osa_openX (s := ⟨hp, g, d, t, os⟩) (r := none) SF X (⟨hx, rfl, rfl, trivial⟩ : InstAt hp x { cls := .ref C, data := .fields fv } C none) ov (by unfold takerIn; rw [ha]; rfl) fun b => ?_
  have hxs : x ≠ hp.objs.size := Nat.ne_of_lt (Heap.lt_size hx)
  unfold hasDictIn at hdC
  cases hcd : clsIn K C with
  | none => rw [hcd] at hdC; cases hdC
  | some cd =>
  have hcls : Looks (model prog w) hp (classData C) cd := looks_clsIn X hcd
  have hh : cd.hasDict = true := by rw [hcd] at hdC; simpa using hdC
  obtain ⟨nm, bs, mro, ns, qn, hd, sn, sb, ab, col, del⟩ := cd
  dsimp only at hh
  subst hh
  dsimp only
  unfold storeInOwnDict ownDictForStores
  repeat (first | with_reducible refine store_in_new ?_ ?_ | with_reducible refine wpAny_loadPart_at hx ?_ | with_reducible refine hcls.at ?_ | wp_step)
  · exact ⟨_, #[], _, (Heap.get?_update_ne _ _ _ _ hxs.symm).trans (Heap.get?_push_at rfl rfl), rfl, fun e he => absurd he (by simp), fun _ => rfl⟩
  · intro h' tk' hn' hs
    have hx1 : (hp.push { cls := .type "dict", data := .dict #[] }).get? x = some { cls := .ref C, data := .fields fv } := Heap.get?_push_of_some _ hx
    refine hq h' tk' hp.objs.size (fun b o hb ho => ?_) (Nat.le_refl _) hxs.symm ?_ hn'
    · exact (hs.2 b (Nat.ne_of_lt (Heap.lt_size ho))).trans ((Heap.get?_update_ne _ _ _ _ hb).trans (Heap.get?_push_of_some _ ho))
    · exact (hs.2 x hxs).trans (Heap.get?_update_self _ hx1 rfl)
/-- __init__ of a fresh exception -/
theorem x_init (tlo : Tl B newId initId tl) (T : XTxt K mg x f newId tl C fI) (F : XIni K f qn fI) {e t0 : Addr} {v : Value} (X : K.In s.heap) (hlim : s.heap.NoLimit) (hx : s.heap.get? e = some (excO C t0)) (hroom : A.depth < recursionLimit)
    (hq : ∀ h' tk dx, InitEnd f s.heap h' e C dx t0 v → R (.ok (.ret .none)) { s with heap := h', toks := tk }) :
    codeAny (model prog w) A (.call (.ref fI) ⟨[.ref e, v], []⟩) R s := by
  obtain ⟨fd, p1, p2, q1, q2, q3, q4, FD⟩ := F.ex
  have hsf := F.sf
  have hdf := F.db
  obtain ⟨oc, od, dV, kV, doc, pm, an, cdv, ct, osl, rfl, ho, hcd, hD, hK⟩ := FD.ex
  obtain rfl : dV = .none := by
    rcases hD with ⟨_, z⟩ | ⟨z, _⟩
    · exact z
    · exact absurd rfl z
  have fs : (f == ("self" : Str)) = false := by simpa using hsf
  have sf : (("self" : Str) == f) = false := by simpa using Ne.symm hsf
  have ks : (xiS f).names.lookup ("self" : Str) = some NameKind.local := by simp [List.lookup]
  have kf : (xiS f).names.lookup f = some NameKind.local := by simp [List.lookup, fs]
  refine Att.call_fn (binds := [("self", .ref e), (f, v)]) X hlim ho hcd hroom (BindsTo.of_eq (F.bd _ _ _ _ _ _ _ _ _ _ _ _ _ _)) (by simp [ks, kf]) (fun s1 IC => ?_) rfl rfl rfl
  obtain ⟨h1, tk1, rfl⟩ := IC.toInCall.same
  have k : ∀ b o, s.heap.get? b = some o → h1.get? b = some o := IC.toInCall.keep
  have hn := IC.toInCall.ns
  have X1 : K.In h1 := X.keeps k
  have hx1 := k _ _ hx
  have kfE : (envOfC qn (xiS f) s.heap.objs.size fI cdv).kindOf f = some NameKind.local := by
    show (xiS f).names.lookup f = _
    exact kf
  have ksE : (envOfC qn (xiS f) s.heap.objs.size fI cdv).kindOf ("self" : Str) = some NameKind.local := by
    show (xiS f).names.lookup ("self" : Str) = _
    exact ks
  show wpAny _ _ (execs _ _) _ _ _
  refine wpAny_execs_cons (plainObj_wpAny_Assign_Attribute ?_)
  have m1 : bindL (envOfC qn (xiS f) s.heap.objs.size fI cdv).kindOf [(("self" : Str), .ref e), (f, v)] (fun _ => none) f = some v := by
    simp only [bindL]
    rw [if_pos kfE]
    exact if_pos rfl
  have m2 : bindL (envOfC qn (xiS f) s.heap.objs.size fI cdv).kindOf [(("self" : Str), .ref e), (f, v)] (fun _ => none) "self" = some (.ref e) := by
    simp only [bindL]
    rw [if_pos kfE, if_pos ksE]
    exact (if_neg (Ne.symm hsf)).trans (if_pos rfl)
  refine ldC (v := v) hn m1 (ldC (v := .ref e) hn m2 ?_ rfl ksE (by decide)) rfl kfE hdf
  refine set_plain X1 (ox := excO C t0) (od := none) ⟨hx1, rfl, rfl, trivial⟩ T.sa ?_
  refine osaT tlo.st X1 hx1 T.ovr T.hdC T.noN (fun h3 tk3 dx k3 dn dne hx3 hn3 => ?_)
  show wpAny _ _ (execs _ _) _ _ _
  have z : s.heap.objs.size < h1.objs.size := hn.lt
  exact wpAny_execs_nil (hq h3 tk3 dx ⟨fun b o hb e => k3 b o hb (k b o e), hx3, Nat.le_of_lt (Nat.lt_of_lt_of_le z dn), dne, hn3⟩)
theorem x_made (tlo : Tl B newId initId tl) (T : XTxt K mg x f newId tl C fI) (F : XIni K f qn fI) {v : Value} (X : K.In s.heap) (hlim : s.heap.NoLimit) (hroom : A.depth + 1 < recursionLimit)
    (hq : ∀ h' tk e d, OwnMade f s.heap h' e C d v → R (.ok (.ret (.ref e))) { s with heap := h', toks := tk }) :
    codeAny (model prog w) A (.call (.ref C) ⟨[v], []⟩) R s := by
  obtain ⟨nm, N, q, bs, bm, hdct, sn, sub, ab, col, dd, k0, k1, k2, k3, k5, hC, hbm⟩ := excInit_of X T.ini
  obtain ⟨hp, g, dr, tk, os⟩ := s
  have k : ∀ b o, hp.get? b = some o → ((hp.push (kdv_tup [v])).push (excO C hp.objs.size)).get? b = some o := fun b o e => Heap.get?_push_of_some _ (Heap.get?_push_of_some _ e)
  have hget : ((hp.push (kdv_tup [v])).push (excO C hp.objs.size)).get? (hp.objs.size + 1) = some (excO C hp.objs.size) := by heap_get
  refine HandSPX.call_own tlo.base hbm hC (looks_findIn X T.iC) (fun self => bind_fn X self T.tC) (one_size v) ?_
  refine x_init (s := ⟨(hp.push (kdv_tup [v])).push (excO C hp.objs.size), g, dr, tk, os⟩) tlo T F (X.keeps k) (hlim.keeps k) hget ?_ fun h' tk' dx ⟨k', hx, dn, dne, hns⟩ => ?_
  · show A.depth + 1 < recursionLimit
    exact hroom
  · have old : ∀ b o, hp.get? b = some o → h'.get? b = some o := fun b o e => k' b o (Nat.ne_of_lt (Nat.lt_succ_of_lt (Heap.lt_size e))) (k b o e)
    have z : hp.objs.size + 1 + 1 ≤ dx := by
      first
        | (simpa only [Heap.size_push] using dn)
        | exact dn
        | (have q := dn; rw [Heap.size_push, Heap.size_push] at q; exact q)
    exact ⟨rfl, hq h' tk' (hp.objs.size + 1) dx ⟨old, Nat.le_succ _, ⟨_, _, hx, rfl, rfl, rfl, rfl⟩, Nat.le_trans (Nat.le_trans (Nat.le_succ _) (Nat.le_succ _)) z, dne, hns⟩⟩
end
end XcD
end PySem
namespace L2
open PySem PySem.Spec PyProof.Rows
theorem relO_one {f : Str} {v : V} {v' : Value} (r : RelV v v') (g : Str) : RelO (List.lookup g [(f, v)]) (if g = f then some v' else none) := by
  by_cases hw : g = f
  · subst hw
    rw [if_pos rfl, show List.lookup g [(g, v)] = some v by simp [List.lookup]]
    exact r
  · have qw : (g == f) = false := by simpa using hw
    rw [if_neg hw, show List.lookup g [(f, v)] = none by simp [List.lookup, qw]]
    trivial
section
variable {X : Cx} {C fI : Addr} {x f qn : Str} {B newId initId : String} {tl : List Value}
def tMkX (f : Str) (C : Addr) (ta : TA) : St → Hp → XK → Prop := fun σ H Q => ta σ H fun vs H1 => ∃ v, vs = [v] ∧ ∀ d, H1 d = none → Q (.ref C) (some d) (upd H1 d (.xd [(f, v)]))
theorem pmk_x {a : Expr} {ta : TA} {p pos : Pos} {k : Nat} (tlo : PySem.XcD.Tl B newId initId tl) (T : PySem.XcD.XTxt X.K X.mg x f newId tl C fI) (F : PySem.XcD.XIni X.K f qn fI)
    (hr : Room k X.A) (ha : PA X [a] ta) (hg : Gl X x) (hdb : (x == ("__debug__" : Str)) = false) (he : starEach (a :: []) X.env = (false, eval a X.env) :: starEach [] X.env := by rfl) (hpl : (backTo pos (starEach [] X.env)).any (·.1) = false := by rfl) :
    PMk X (.Call (.Name x p) [a] [] pos) (tMkX f C ta) := by
  intro pins s σ H Q I h
  refine wpAny_Call_Name_kw (ld_glob I hg T.gC ?_ hdb)
  refine PySem.W.callWith_K (h₀ := X.base) I.ok.mod.kin T.kC (thn (ha.run pos pins s σ H _ I h) fun us s1 hh => ?_) he hpl
  obtain ⟨vs, H1, I1, r1, v, ev, q1⟩ := hh
  subst ev
  refine ⟨I1.kIn, ?_⟩
  cases r1 with
  | cons rv rn =>
    rename_i v' us'
    cases rn
    show wpAny _ _ (call (.ref C) [v']) _ _ _
    have hlim := I1.nolimit
    obtain ⟨hp, g, dr, tk, os⟩ := s1
    refine wpAny_call (PySem.XcD.x_made tlo T F I1.kIn hlim (by have := hr.dp; omega) fun h' tk' e d M => ?_)
    show MkP X pins σ Q (.ref e) ⟨h', g, dr, tk', os⟩
    obtain ⟨oe, fv, hoe, hc, hd, hdat, h1⟩ := M.obj
    have hns := M.ns
    obtain ⟨G', g1, g2⟩ := restrict h' fun b => decide (b ≠ e)
    have gk : ∀ b, b ≠ e → G'.get? b = h'.get? b := fun b hb => g1 b (decide_eq_true hb)
    have ge : G'.get? e = none := g2 e (by simp)
    have old : ∀ b o, hp.get? b = some o → G'.get? b = some o := fun b o q => (gk b (Nat.ne_of_lt (Nat.lt_of_lt_of_le (Heap.lt_size q) M.new))).trans (M.keep b o q)
    have ob : ObjOk X.prog X.w (upd H1 d (.xd [(f, v)])) G' d (.xd [(f, v)]) := ⟨_, hns.at (fun o q => (gk d M.dne).trans q), fun g => relO_one rv g⟩
    have J : Inv X pins σ (upd H1 d (.xd [(f, v)])) ⟨G', g, dr, tk', os⟩ := I1.laid (t' := tk') old M.dbig ob
    refine ⟨e, oe, fv, ⟨G', g, dr, tk', os⟩, _, .ref C, some d, rfl, J, fun b o q => ?_, ge, hoe, ⟨hc, hd⟩, hdat, h1, ?_, rfl, I1.bare, raises_own T.exC T.tyC, q1 d (I1.hok.fresh M.dbig)⟩
    · by_cases hb : b = e
      · have q' : G'.get? b = some o := q
        rw [hb, ge] at q'; cases q'
      · exact (gk b hb).symm.trans q
    · rw [upd_ne (Ne.symm M.dne)]
      exact I1.hok.fresh M.new
end
end L2
namespace Dz
open PySem PySem.Spec PyProof.Rows L2
section
variable {X : Cx} {W : WX} {pos : Pos}
/-! ### raise -/
def dRaise1 (w : WD) (C : Addr) (f : Str) (ta : DE) : DS := fun _ env s => ta env s fun v s1 => w (.ref C) [(f, v)] env s1
theorem pxs_raise1 {C fI : Addr} {x f qn : Str} {B newId initId : String} {tl : List Value} {a : Expr} {ta : DE} {p pos2 : Pos} {k : Nat} (hc : X.calm = true) (tk : Takes X W) (tlo : PySem.XcD.Tl B newId initId tl) (T : PySem.XcD.XTxt X.K X.mg x f newId tl C fI) (F : PySem.XcD.XIni X.K f qn fI)
    (hr : Room k X.A) (hg : Gl X x) (ha : PD X a ta) (hdb : (x == ("__debug__" : Str)) = false := by decide) (he : starEach (a :: []) X.env = (false, eval a X.env) :: starEach [] X.env := by rfl) (hpl : (backTo pos (starEach [] X.env)).any (·.1) = false := by rfl) :
    PXS X W (.Raise (some (.Call (.Name x p) [a] [] pos)) none pos2) (fun w => dRaise1 w C f ta) :=
  ps_imp (ps_raise hc tk (pmk_x tlo T F hr (pda_cons ha pda_nil he) hg hdb he hpl)) fun _ σ H ⟨env, s, DD, Wd, h1, h2, h3, h4, h5⟩ => by
    refine ⟨env, s, (fun ws s1 => ∃ v, ws = [v] ∧ Wd (.ref C) [(f, v)] env s1), h1, h2, ?_, fun ws s1 vs H1 q e1 m1 r1 => ?_⟩
    · show ta env s fun x s1 => ∃ v, [x] = [v] ∧ Wd (.ref C) [(f, v)] env s1
      have : (fun (x : D) (s1 : Sg) => ∃ v, [x] = [v] ∧ Wd (.ref C) [(f, v)] env s1) = fun v s1 => Wd (.ref C) [(f, v)] env s1 := by
        funext x s1
        refine propext ⟨fun ⟨v, e, q⟩ => ?_, fun q => ⟨x, rfl, q⟩⟩
        cases e
        exact q
      rw [this]
      exact h3
    · obtain ⟨v, rfl, q⟩ := q
      obtain ⟨u, ur, rfl, r2, r3⟩ := r1
      cases (show ur = [] from r3)
      refine ⟨u, rfl, fun d hd => h5 _ _ env s1 (some d) σ _ q (e1.trans (.new hd)) (m1.new hd) (h1.ext (e1.trans (.new (s := s1) (o := .xd [(f, u)]) hd)).ext) (.inr ⟨d, [u], rfl, upd_same, u, [], rfl, Rep.ext (.new hd) _ _ r2, rfl⟩)⟩
/-! a class without fields -/
def dRaise0 (w : WD) (C : Addr) : DS := fun _ env s => w (.ref C) [] env s
structure X0Txt (K : PySem.W.Frag) (mg : Str → Option Value) (x : Str) (newId : String) (tl : List Value) (C : Addr) : Prop where
  gC : mg x = some (.ref C)
  ini : PySem.W.excIn K C tl newId = true
  kC : PySem.W.keepIn K (.ref C) = true
  exC : PySem.W.subIn K (.ref C) (.type "BaseException") = some true
  tyC : PySem.W.typeIn K (.ref C) = some (.type "type")
theorem pmk_x0 {C : Addr} {x : Str} {B newId initId : String} {tl : List Value} {p : Pos} (F : ExcBaseFacts B newId initId tl) (T : X0Txt X.K X.mg x newId tl C) (hg : Gl X x) (hdb : (x == ("__debug__" : Str)) = false := by decide) :
    PMk X (.Call (.Name x p) [] [] pos) (fun σ H Q => Q (.ref C) none H) := by
  intro pins s σ H Q I h
  refine wpAny_Call_Name_kw (ld_glob I hg T.gC (PySem.W.callWith_K0 I.kIn T.kC ?_) hdb)
  obtain ⟨bm, N, nm, qn, bs, hdct, sn, sub, ab, col, dd, k0, k1, k2, k3, k5, mN, hC, hN, hni, TT⟩ := exc_obj I.kIn T.ini
  refine wpAny_call_exc_subT F TT hC hN hni (fun h' e hm => ?_) (Nat.zero_le _)
  exact mk_of I hm (raises_own T.exC T.tyC) h (I.hok.gone hm.new)
theorem pxs_raise0 {C : Addr} {x : Str} {B newId initId : String} {tl : List Value} {p pos2 : Pos} (hc : X.calm = true) (tk : Takes X W) (F : ExcBaseFacts B newId initId tl) (T : X0Txt X.K X.mg x newId tl C) (hg : Gl X x) (hdb : (x == ("__debug__" : Str)) = false := by decide) :
    PXS X W (.Raise (some (.Call (.Name x p) [] [] pos)) none pos2) (fun w => dRaise0 w C) :=
  ps_imp (ps_raise hc tk (pmk_x0 F T hg hdb)) fun D σ H ⟨env, s, DD, Wd, h1, h2, h3, h4, h5⟩ => h5 _ _ env s none σ H h3 (.refl _ _) h2 h1 (.inl ⟨rfl, rfl⟩)
/-! ### an exception's fields are locked -/
theorem inv_freezeX {pins : List (Addr × Obj)} {σ : L2.St} {H : Hp} {s : Shared} {a : Addr} {fs : List (Str × V)} (I : Inv X pins σ H s) (h : H a = some (.xd fs)) : ∃ o, Inv X pins σ (upd H a (.frz o (.xd fs))) s := by
  have ok := I.hok a _ h
  obtain ⟨o, ho⟩ : ∃ o, s.heap.get? a = some o := by
    obtain ⟨_, ⟨o, _, _, e, _⟩, _⟩ := ok
    exact ⟨o, e⟩
  have nm : ∀ b u, H b = some u → u ≠ .xd fs → b ≠ a := fun b u e n q => by subst q; rw [h] at e; cases e; exact n rfl
  have own : ∀ b c, H b = some (.own c) → upd H a (.frz o (.xd fs)) b = some (.own c) := fun b c e => by rw [upd_ne (nm b _ e nofun)]; exact e
  have tup : ∀ b c, H b = some (.tup c) → upd H a (.frz o (.xd fs)) b = some (.tup c) := fun b c e => by rw [upd_ne (nm b _ e nofun)]; exact e
  have fre : ∀ b, H b = none → upd H a (.frz o (.xd fs)) b = none := fun b e => by rw [upd_ne (fun q => by subst q; rw [h] at e; cases e)]; exact e
  refine ⟨o, ⟨I.ok, I.os, I.bare, ?_, I.loc, I.cell, fre _ I.free, fun x c e => fre _ (I.freeC x c e), fun p hp => ?_, fun b u e => ?_, I.len⟩⟩
  · have u := I.base
    exact ⟨u.keep, u.slot, fun b ob q n x => fre b (u.free b ob q n x), u.there, fun b xs e => tup b xs (u.tups b xs e), fun b ob w e => by
      have e' := u.frzs b ob w e
      rw [upd_ne (nm b _ e' nofun)]; exact e', fun b ps e => by
      obtain ⟨m, e'⟩ := u.tbls b ps e
      exact ⟨m, by rw [upd_ne (nm b _ e' nofun)]; exact e'⟩⟩
  · obtain ⟨p1, p2, p3⟩ := I.pin p hp
    exact ⟨p1, fre _ p2, p3⟩
  · by_cases hb : b = a
    · subst hb
      rw [upd_same] at e
      cases e
      exact ⟨ho, ok.stay (fun _ _ _ q => q) (fun c q => own c _ q) fun c xs q => tup c xs q⟩
    · rw [upd_ne hb] at e
      exact (I.hok b u e).stay (fun _ _ _ q => q) (fun c q => own c _ q) fun c xs q => tup c xs q
/-! ### try -/
abbrev DSu := Addr → Option Addr → Value → DS
def excD (a : Addr) (d : Option Addr) (fs : List (Str × D)) : D := .exc a d (fs.map (·.1)) (fs.map (·.2))
def goneDD (i : Nat) (DD : DEnds) : DEnds := { nx := fun env s => DD.nx (env.set i none) s, rt := DD.rt, bk := fun env s => DD.bk (env.set i none) s, ct := fun env s => DD.ct (env.set i none) s }
def wTry (EM : Value → Value → Option Bool) (i : Nat) (Wo : WD) (DD : DEnds) : List (Value × DSu) → WD
  | [] => Wo
  | (c, t) :: r => fun cls fs env s => match EM cls c with
    | some true => ∀ a d, t a d cls (goneDD i DD) (env.set i (some (excD a d fs))) s
    | some false => wTry EM i Wo DD r cls fs env s
    | none => False
/-- the suite's reading, with the exception in its slot -/
def liftSu (K : PySem.W.Frag) (i : Nat) (t : DSu) : Addr → Value → Option Addr → TS := fun a cls d D σ H => ∃ env0 σ0 s DD fs, σ = σ0.set i (some (.ref a)) ∧ REnv K H env0 σ0 ∧ MRep K H s ∧ FldAt K H d fs ∧ t a d cls DD (env0.set i (some (excD a d fs))) s ∧ PostD K H s DD D
theorem pss_suite {Y : Cx} {a : Addr} {cls : Value} {d : Option Addr} {i : Nat} {t : DSu} {st : List Stmt} (h : PDSs Y st (t a d cls)) : PSs Y st (liftSu Y.K i t a cls d) := ⟨fun pins s σ H D I ⟨env0, σ0, sg, DD, fs, e, h1, h2, h3, h4, h5⟩ => by
  subst e
  rcases h3 with ⟨rfl, rfl⟩ | ⟨b, vs, rfl, hb, hr⟩
  · exact h.run pins s _ H D I ⟨_, sg, DD, h1.set i (show Rep Y.K H (.exc a none [] []) (.ref a) from ⟨rfl, .inl ⟨rfl, rfl⟩⟩), h2, h4, h5⟩
  · obtain ⟨o, I2⟩ := inv_freezeX I hb
    have hl : (fs.map (·.1)).length = vs.length := by
      have := hr.len
      rw [List.length_map] at this ⊢
      exact this
    have ex : Ext H (upd H b (.frz o (.xd ((fs.map (·.1)).zip vs)))) := ⟨fun c xs q => by rw [upd_ne (fun z => by subst z; rw [hb] at q; cases q)]; exact q, fun c o' u q => by rw [upd_ne (fun z => by subst z; rw [hb] at q; cases q)]; exact q⟩
    have st : Stp H sg (upd H b (.frz o (.xd ((fs.map (·.1)).zip vs)))) sg := ⟨ex, fun c u q1 q2 q3 q4 => ⟨by rw [upd_ne (fun z => by subst z; rw [hb] at q1; cases q1; exact q2)]; exact q1, q3, q4⟩⟩
    have m2 := h2.ext ex fun c q => upd_ne fun z => by subst z; rw [hb] at q; exact q.elim
    refine h.run pins s _ _ D I2 ⟨_, sg, DD, (h1.ext ex).set i ?_, m2, h4, h5.ext st⟩
    exact ⟨rfl, .inr ⟨b, o, vs, rfl, upd_same, hl, Reps.ext ex _ _ hr⟩⟩⟩
inductive HdsD (X : Cx) (n : Str) : List ExceptHandler → List (Value × DSu) → Prop
  | nil : HdsD X n [] []
  | cons {x : Str} {c : Value} {t : DSu} {b0 : Stmt} {suite : List Stmt} {np pos' : Pos} {hds : List ExceptHandler} {l : List (Value × DSu)} (hc : Names X x c)
      (hsu : ∀ (a : Addr) (oe : Obj) (cls : Value) (d : Option Addr) (pn : List (Addr × Obj)), Zc cls d oe → (∃ vs, oe.data = .fields vs) → PDSs (X.suite a ((a, oe) :: pn)) (b0 :: suite) (t a d cls)) (r : HdsD X n hds l) :
      HdsD X n (.ExceptHandler (some (.Name x np)) (some n) (b0 :: suite) pos' :: hds) ((c, t) :: l)
theorem HdsD.as {n : Str} {i : Nat} {hds : List ExceptHandler} {l : List (Value × DSu)} (h : HdsD X n hds l) : HdsAs X n hds (l.map fun z => (z.1, liftSu X.K i z.2)) := by
  induction h with
  | nil => exact .nil
  | cons hc hsu r ih => exact .cons hc (fun a oe cls d pn hz hf => pss_suite (hsu a oe cls d pn hz hf)) ih
theorem PostD.gone {K : PySem.W.Frag} {H : Hp} {s : Sg} {DD : DEnds} {D : Ends} (i : Nat) (h : PostD K H s DD D) : PostD K H s (goneDD i DD) (goneD i D) :=
  ⟨fun env s' σ H' q e m r => h.nx _ s' _ H' q e m (r.setN i), h.rt, fun env s' σ H' q e m r => h.bk _ s' _ H' q e m (r.setN i), fun env s' σ H' q e m r => h.ct _ s' _ H' q e m (r.setN i)⟩
theorem wTry_post {K : PySem.W.Frag} {EM : Value → Value → Option Bool} (hEM : ∀ c x b, EM c x = some b → PySem.W.exmOne K c x = some b) {i : Nat} {H : Hp} {s : Sg} {DD : DEnds} {D : Ends} {Wo : WD} {Wout : WX} (h4 : PostD K H s DD D) (h5 : PostW K H s Wo Wout) :
    ∀ l : List (Value × DSu), PostW K H s (wTry EM i Wo DD l) (wMas K i Wout D (l.map fun z => (z.1, liftSu K i z.2)))
  | [] => h5
  | (c, t) :: l => fun cls fs env s1 d σ H1 w e m r f => by
    have ih := wTry_post (i := i) hEM h4 h5 l
    unfold wTry at w
    cases hb : EM cls c with
    | none => rw [hb] at w; exact w.elim
    | some b =>
      rw [hb] at w
      refine ⟨b, hEM _ _ _ hb, fun hb1 a na => ?_, fun hb0 => ?_⟩
      · subst hb1
        exact ⟨env, σ, s1, goneDD i DD, fs, rfl, r, m, f, w a d, (h4.gone i).ext e⟩
      · subst hb0
        exact ih cls fs env s1 d σ H1 w e m r f
/-- try: body, except c as n: suite, .. -/
def dTry (EM : Value → Value → Option Bool) (i : Nat) (tb : WD → DS) (l : List (Value × DSu)) (Wo : WD) : DS := fun DD env s => tb (wTry EM i Wo DD l) DD env s
theorem pxs_try {n : Str} {i : Nat} {body : List Stmt} {h0 : ExceptHandler} {hds : List ExceptHandler} {l : List (Value × DSu)} {tb : WD → DS} {EM : Value → Value → Option Bool} (hEM : ∀ c x b, EM c x = some b → PySem.W.exmOne X.K c x = some b)
    (hs : X.stack = X.env :: X.outer) (hf : X.env.frame = some X.env.locals) (hN : X.N.Nodup) (hi : X.N[i]? = some n) (hln : X.env.kindOf n = some .local) (tk : Takes X W)
    (hb : ∀ (W' : WX) (pn : List (Addr × Obj)) (xe : Value → Shared → Prop), Takes (X.tr pn xe) W' → PassesOwn (model X.prog X.w) X.A X.env xe → PXSs (X.tr pn xe) W' body tb)
    (hh : HdsD X n (h0 :: hds) l) : PXS X W (.Try body (h0 :: hds) [] [] pos) (fun w => dTry EM i tb l w) :=
  ps_imp (ps_try_mas (tb := fun W' => liftSW X.K W' tb) hs hf hN hi hln tk hb hh.as) fun D σ H ⟨env, s, DD, Wd, h1, h2, h3, h4, h5⟩ => ⟨env, s, DD, _, h1, h2, h3, h4, wTry_post hEM h4 h5 l⟩
/-- .. where nothing leaves -/
theorem pds_try {n : Str} {i : Nat} {body : List Stmt} {h0 : ExceptHandler} {hds : List ExceptHandler} {l : List (Value × DSu)} {tb : WD → DS} {EM : Value → Value → Option Bool} (hEM : ∀ c x b, EM c x = some b → PySem.W.exmOne X.K c x = some b)
    (hs : X.stack = X.env :: X.outer) (hf : X.env.frame = some X.env.locals) (hN : X.N.Nodup) (hi : X.N[i]? = some n) (hln : X.env.kindOf n = some .local)
    (hb : ∀ (W' : WX) (pn : List (Addr × Obj)) (xe : Value → Shared → Prop), Takes (X.tr pn xe) W' → PassesOwn (model X.prog X.w) X.A X.env xe → PXSs (X.tr pn xe) W' body tb)
    (hh : HdsD X n (h0 :: hds) l) : PDS X (.Try body (h0 :: hds) [] [] pos) (dTry EM i tb l fun _ _ _ _ => False) :=
  ps_imp (ps_try_mas (tb := fun W' => liftSW X.K W' tb) hs hf hN hi hln takes_none5 hb hh.as) fun D σ H ⟨env, s, DD, h1, h2, h3, h4⟩ => ⟨env, s, DD, _, h1, h2, h3, h4, wTry_post hEM h4 (fun _ _ _ _ _ _ _ h _ _ _ _ => h.elim) l⟩
end
end Dz
/-! what an except suite asks -/
namespace Dz
open PySem PySem.Spec PyProof.Rows L2
/-- what the written part answers of classes -/
structure Orc where
  em : Value → Value → Option Bool
  ko : Value → Value → Option Bool
  ka : Value → List Value → Option Bool
  xf : Addr → Str → Bool
  xc : Addr → Bool
structure ExK (K : PySem.W.Frag) (C : Addr) : Prop where
  cl : (PySem.W.clsIn K C).isSome = true
  ga : PySem.W.findIn K (.ref C) "__getattribute__" = some (some (.builtin "BaseException.__getattribute__"))
  gg : PySem.W.findIn K (.ref C) "__getattr__" = some none
  sub : PySem.W.subIn K (.ref C) (.type "BaseException") = some true
  cc : PySem.W.findIn K (.ref C) "__class__" = some (some (.builtin "object.__class__"))
  gs : PySem.W.specialIn K (.builtin "object.__class__") "__get__" = some (some (.builtin "getset_descriptor.__get__"))
  tk : PySem.W.takesIn K (.builtin "object.__class__") = some true
  mo : PySem.W.mroIn K C (.type "object") = some true
  hd : PySem.W.hasDictIn K C = true
structure OrcOk (K : PySem.W.Frag) (o : Orc) : Prop where
  em : ∀ c x b, o.em c x = some b → PySem.W.exmOne K c x = some b
  ko : ∀ c x b, o.ko c x = some b → PySem.W.kitOne K c x = some b
  ka : ∀ c l b, o.ka c l = some b → PySem.W.kitAny K c l = some b
  xf : ∀ C f, o.xf C f = true → ExK K C ∧ PySem.W.findIn K (.ref C) f = some none
  xc : ∀ C, o.xc C = true → ExK K C
def exkB (K : PySem.W.Frag) (C : Addr) : Bool :=
  (PySem.W.clsIn K C).isSome && decide (PySem.W.findIn K (.ref C) "__getattribute__" = some (some (.builtin "BaseException.__getattribute__"))) && decide (PySem.W.findIn K (.ref C) "__getattr__" = some none) && decide (PySem.W.subIn K (.ref C) (.type "BaseException") = some true) &&
  decide (PySem.W.findIn K (.ref C) "__class__" = some (some (.builtin "object.__class__"))) && decide (PySem.W.specialIn K (.builtin "object.__class__") "__get__" = some (some (.builtin "getset_descriptor.__get__"))) && decide (PySem.W.takesIn K (.builtin "object.__class__") = some true) && decide (PySem.W.mroIn K C (.type "object") = some true) && PySem.W.hasDictIn K C
theorem exkB_ok {K : PySem.W.Frag} {C : Addr} (h : exkB K C = true) : ExK K C := by
  unfold exkB at h
  simp only [Bool.and_eq_true, decide_eq_true_eq] at h
  obtain ⟨⟨⟨⟨⟨⟨⟨⟨h1, h2⟩, h3⟩, h4⟩, h5⟩, h6⟩, h7⟩, h8⟩, h9⟩ := h
  exact ⟨h1, h2, h3, h4, h5, h6, h7, h8, h9⟩
def orcK (K : PySem.W.Frag) : Orc := ⟨PySem.W.exmOne K, PySem.W.kitOne K, PySem.W.kitAny K, fun C f => exkB K C && decide (PySem.W.findIn K (.ref C) f = some none), exkB K⟩
theorem orcK_ok (K : PySem.W.Frag) : OrcOk K (orcK K) := ⟨fun _ _ _ h => h, fun _ _ _ h => h, fun _ _ _ h => h, fun C f h => by
  obtain ⟨h1, h2⟩ := Bool.and_eq_true_iff.mp h
  exact ⟨exkB_ok h1, of_decide_eq_true h2⟩, fun C h => exkB_ok h⟩
section
variable {X : Cx} {a : Addr} {oe : Obj} {cls : Value} {d : Option Addr} {pn : List (Addr × Obj)} {o : Orc} {pos : Pos}
/-- the exception stands -/
theorem exc_at {pins : List (Addr × Obj)} {σ : L2.St} {H : Hp} {s : Shared} {C : Addr} {ns : List Str} {us : List D} {v : V} (hz : Zc (.ref C) d oe) (hf : ∃ vs, oe.data = .fields vs) (I : Inv (X.suite a ((a, oe) :: pn)) pins σ H s) (r : Rep X.K H (.exc a d ns us) v) : v = .ref a ∧ ∃ od, PySem.W.InstAt s.heap a oe C od := by
  obtain ⟨rfl, h⟩ := r
  refine ⟨rfl, ?_⟩
  obtain ⟨ha, _⟩ := I.pin (a, oe) (List.mem_append_left _ List.mem_cons_self)
  obtain ⟨vs, hd⟩ := hf
  have nc : PySem.W.notCls oe = true := by unfold PySem.W.notCls; rw [hd] <;> rfl
  rcases h with ⟨rfl, _⟩ | ⟨b, ob, ws, rfl, hb, _⟩
  · exact ⟨none, ha, hz.1, nc, by rw [hz.2]; trivial⟩
  · have := (I.hok b _ hb).1
    exact ⟨some ob, ha, hz.1, nc, by rw [hz.2]; exact this⟩
/-- error.f -/
def dXf (o : Orc) (a : Addr) (d : Option Addr) (cls : Value) (f : Str) (te : DE) : DE := fun env s R => te env s fun w s1 => match w with
  | .exc a' d' ns us => a' = a ∧ d' = d ∧ (∃ C, cls = .ref C ∧ o.xf C f = true) ∧ (match (ns.zip us).lookup f with
    | some v => R v s1
    | none => False)
  | _ => False
theorem lookup_zip {K : PySem.W.Frag} {H : Hp} {f : Str} : ∀ {ns : List Str} {us : List D} {vs : List V} {w : D}, Reps K H us vs → ns.length = vs.length → (ns.zip us).lookup f = some w → ∃ v, (ns.zip vs).lookup f = some v ∧ Rep K H w v
  | [], us, vs, w, r, e, h => by simp at h
  | n :: ns, [], vs, w, r, e, h => by simp at h
  | n :: ns, u :: us, vs, w, r, e, h => by
    obtain ⟨v, vr, rfl, r1, r2⟩ := r
    simp only [List.zip_cons_cons, List.lookup] at h ⊢
    by_cases c : (f == n) = true
    · rw [c] at h ⊢
      cases h
      exact ⟨v, rfl, r1⟩
    · have c' : (f == n) = false := by simpa using c
      rw [c'] at h ⊢
      exact lookup_zip r2 (by simpa using e) h
theorem pd_xf {e : Expr} {f : Str} {te : DE} (ok : OrcOk X.K o) (hz : Zc cls d oe) (hf : ∃ vs, oe.data = .fields vs) (he : PD (X.suite a ((a, oe) :: pn)) e te) (hb : attributeBase e f X.env (eval e X.env) = eval e X.env := by rfl) :
    PD (X.suite a ((a, oe) :: pn)) (.Attribute e f pos) (dXf o a d cls f te) := ⟨fun pins s σ H Q I ⟨env, sg, R, h1, h2, h3, h4⟩ => by
  refine attr_of hb (thn (he.run pins s σ H (fun v H1 => ∃ w s1, (match w with
    | .exc a' d' ns us => a' = a ∧ d' = d ∧ (∃ C, cls = .ref C ∧ o.xf C f = true) ∧ (match (ns.zip us).lookup f with
      | some v => R v s1
      | none => False)
    | _ => False) ∧ Stp H sg H1 s1 ∧ MRep X.K H1 s1 ∧ Rep X.K H1 w v) I ⟨env, sg, _, h1, h2, h3, fun w s1 v H1 q e1 m1 r1 => ⟨w, s1, q, e1, m1, r1⟩⟩) fun u s1 hh => ?_)
  obtain ⟨v, H1, I1, rx, w, s2, q, e1, m1, r1⟩ := hh
  split at q
  · rename_i w a' d' ns us
    obtain ⟨rfl, rfl, ⟨C, rfl, hx⟩, q⟩ := q
    obtain ⟨ek, hno⟩ := ok.xf C f hx
    split at q
    · rename_i y hy
      obtain ⟨ev, od0, J⟩ := exc_at hz hf I1 r1
      subst ev
      obtain rfl : u = Value.ref a' := rx
      obtain ⟨_, h⟩ := r1
      rcases h with ⟨rfl, rfl⟩ | ⟨b, ob, ws, rfl, hbb, hl, hr⟩
      · simp at hy
      · have hx2 : ObjOk X.prog X.w H1 s1.heap b (.xd (ns.zip ws)) := (I1.hok b _ hbb).2
        obtain ⟨mA, hns, hrel⟩ := hx2
        obtain ⟨od, ho, hlk⟩ := lookIn_ns hns
        obtain ⟨y', l, ry⟩ := lookup_zip hr hl hy
        obtain ⟨z, hz2, rz⟩ := RelO.some_of (v := y') (o := mA f) (by rw [← l]; exact hrel f)
        obtain ⟨ha, _⟩ := I1.pin (a', oe) (List.mem_append_left _ List.mem_cons_self)
        obtain ⟨vs, hd⟩ := hf
        have J2 : PySem.W.InstAt s1.heap a' oe C (some od) := ⟨ha, hz.1, by unfold PySem.W.notCls; rw [hd] <;> rfl, by rw [hz.2]; exact ho⟩
        exact HandSPX.exc_get I1.kIn J2 ek.ga ek.gg ek.sub (PySem.W.findObj_own ek.hd hno rfl (by rw [hlk, hz2])) (handed_of rz) ⟨y', H1, I1.tok _, rz, h4 _ _ _ _ q e1 m1 ry⟩
    · exact q.elim
  · exact q.elim⟩
/-- isinstance(error, ..) -/
def clsV : D → Option Value
  | .ty n => some (.type n)
  | .ref C => some (.ref C)
  | _ => none
def clsVs : List D → Option (List Value)
  | [] => some []
  | w :: ws => (clsV w).bind fun v => (clsVs ws).map fun vs => v :: vs
theorem clsV_rel {K : PySem.W.Frag} {H : Hp} {w : D} {v : V} {c u : Value} (h : clsV w = some c) (r : Rep K H w v) (q : RelV v u) : u = c := by
  cases w with
  | ty n => cases h; cases (show v = .ty n from r); exact q
  | ref C => cases h; cases (show v = .ref C from r); exact q
  | _ => cases h
theorem clsVs_rel {K : PySem.W.Frag} {H : Hp} : ∀ {ws : List D} {vs : List V} {cs us : List Value}, clsVs ws = some cs → Reps K H ws vs → Vals vs us → us = cs
  | [], vs, cs, us, h, r, q => by
    cases h
    cases (show vs = [] from r)
    cases q
    rfl
  | w :: ws, vs, cs, us, h, r, q => by
    obtain ⟨v, vr, rfl, r1, r2⟩ := r
    unfold clsVs at h
    obtain ⟨c, e1, h⟩ := Option.bind_eq_some_iff.mp h
    obtain ⟨cs', e2, rfl⟩ := Option.map_eq_some_iff.mp h
    cases q with
    | cons q1 q2 => rw [clsV_rel e1 r1 q1, clsVs_rel e2 r2 q2]
def ans (b : Option Bool) (s : Sg) (R : KD) : Prop := match b with
  | some b => R (.bl b) s
  | none => False
def rIsE (o : Orc) (a : Addr) (d : Option Addr) (cls : Value) : DL := fun ws s R => match ws with
  | [.exc a' d' _ _, .tup cs] => a' = a ∧ d' = d ∧ (∃ C, cls = .ref C ∧ o.xc C = true) ∧ ans ((clsVs cs).bind fun l => o.ka cls l) s R
  | [.exc a' d' _ _, c] => a' = a ∧ d' = d ∧ (∃ C, cls = .ref C ∧ o.xc C = true) ∧ ans ((clsV c).bind fun v => o.ko cls v) s R
  | _ => False
theorem ans_ok {b : Option Bool} {s : Sg} {R : KD} (h : ans b s R) : ∃ x, b = some x ∧ R (.bl x) s := by
  cases b with
  | none => exact h.elim
  | some x => exact ⟨x, rfl, h⟩
theorem cd_isE (ok : OrcOk X.K o) (hz : Zc cls d oe) (hf : ∃ vs, oe.data = .fields vs) : CallR (X.suite a ((a, oe) :: pn)) (.builtin "isinstance") (liftL X.K (rIsE o a d cls)) := by
  intro pins s σ H xs us Q I rr ⟨ws, sg, R, r1, m, h, p⟩
  unfold rIsE at h
  split at h
  · rename_i a' d' ns uu cs
    obtain ⟨rfl, rfl, ⟨C, rfl, hx⟩, h⟩ := h
    obtain ⟨b, hb, q⟩ := ans_ok h
    obtain ⟨l, hl, hb⟩ := Option.bind_eq_some_iff.mp hb
    have ek := ok.xc C hx
    obtain ⟨v1, vr, rfl, g1, v2, vr2, rfl, g2, g3⟩ := r1
    cases (show vr2 = [] from g3)
    obtain ⟨ev, od, J⟩ := exc_at hz hf I g1
    subst ev
    obtain ⟨u1, u2, rfl, ru1, ru2⟩ := Vals.two rr
    obtain rfl : u1 = Value.ref a' := ru1
    obtain ⟨tp, tv, rfl, sq, rs⟩ := g2
    obtain rfl : u2 = Value.ref tp := ru2
    obtain ⟨its, rv, ⟨ot, e1, e2, n, e3⟩, _⟩ := I.tuple sq.1
    cases clsVs_rel hl rs rv
    obtain ⟨oc, odd, odt, osl⟩ := ot
    simp only at e2 e3
    subst e2 e3
    exact PySem.W.kia_tup (PySem.W.kitx_exc (x := a') (ox := oe) (od := od) ek.cl ek.ga ek.gg ek.sub ek.cc ek.gs ek.tk ek.mo) I.kIn J e1 (ok.ka _ _ _ hb) nofun fun tk => ⟨.bl b, H, I.tok tk, rfl, p _ _ _ _ q (.refl _ _) m rfl⟩
  · rename_i a' d' ns uu c _
    obtain ⟨rfl, rfl, ⟨C, rfl, hx⟩, h⟩ := h
    obtain ⟨b, hb, q⟩ := ans_ok h
    obtain ⟨l, hl, hb⟩ := Option.bind_eq_some_iff.mp hb
    have ek := ok.xc C hx
    obtain ⟨v1, vr, rfl, g1, v2, vr2, rfl, g2, g3⟩ := r1
    cases (show vr2 = [] from g3)
    obtain ⟨ev, od, J⟩ := exc_at hz hf I g1
    subst ev
    obtain ⟨u1, u2, rfl, ru1, ru2⟩ := Vals.two rr
    obtain rfl : u1 = Value.ref a' := ru1
    cases clsV_rel hl g2 ru2
    exact PySem.W.kia_one (PySem.W.kitx_exc (x := a') (ox := oe) (od := od) ek.cl ek.ga ek.gg ek.sub ek.cc ek.gs ek.tk ek.mo) I.kIn J (ok.ko _ _ _ hb) nofun fun tk => ⟨.bl b, H, I.tok tk, rfl, p _ _ _ _ q (.refl _ _) m rfl⟩
  · exact h.elim
end
/-! ### repr of anything -/
section
variable {X : Cx}
def rReprU : DL := fun ws s R => match ws with
  | [w] => (match pyOf s w with
    | some d => d.showable = true ∧ d.depth ≤ 60 ∧ d.shown.length ≤ 1000000 ∧ R (.str d.shown) s
    | none => False)
  | _ => False
theorem cd_reprU (hu : X.A.units + 64 < cLine) (hg : X.A.guards = some []) : CallR X (.builtin "repr") (liftL X.K rReprU) := by
  intro pins s σ H xs us Q I rr ⟨ws, sg, R, r1, m, h, p⟩
  unfold rReprU at h
  split at h
  · rename_i w
    obtain ⟨v, r, rfl, r2, r3⟩ := r1
    cases (show r = [] from r3)
    split at h
    · rename_i d hd
      obtain ⟨c2, c3, c4, c5⟩ := h
      have dp := pyOf_dp hd r2 m
      obtain ⟨u, rfl, ru⟩ := vals1 rr
      have fin : ∀ u' tk (h' : Heap), (∀ b ob, s.heap.get? b = some ob → h'.get? b = some ob) → EP X pins σ Q (.str d.shown u') { s with heap := h', toks := tk } := fun u' tk h' hk => ⟨.str d.shown, H, I.kept hk, ⟨u', rfl⟩, p _ _ _ _ c5 (.refl _ _) m rfl⟩
      cases hdd : isDisplay d with
      | true =>
        obtain ⟨as, rd⟩ := Dp.reads I d v u dp ru
        obtain ⟨a, rfl⟩ := isRef_of_reads rd hdd
        exact repr_of_reads' rd c2 (PyData.noDict_hsm (noDictD dp)) hg (by omega) (fun _ _ e => e) (fun h' u' tk hk => fin u' tk h' hk) (Nat.le_trans c4 mil)
      | false =>
        cases dp with
        | non => cases ru; exact PySem.P.repr_of_none (fin _ _ _ fun _ _ e => e)
        | bl b => cases ru; exact PySem.P.repr_of_bool (by have := fin s.toks (s.toks + 1) s.heap fun _ _ e => e; cases b <;> exact this)
        | int i =>
          obtain ⟨t, rfl⟩ := ru
          exact PySem.P.repr_of_int (of_decide_eq_true c2) (fin _ _ _ fun _ _ e => e)
        | str x =>
          obtain ⟨t, rfl⟩ := ru
          exact PySem.P.repr_of_str (fin _ _ _ fun _ _ e => e) (Nat.le_trans c4 mil)
        | _ => cases hdd
    · exact h.elim
  · exact h.elim
end
end Dz
/-! what the head tells of exception classes -/
namespace Dz
open PySem PySem.Spec PyProof.Rows L2
theorem bb_ValueError : bootBuiltins "ValueError" = some (.type "ValueError") := by decide +kernel
theorem bb_LookupError : bootBuiltins "LookupError" = some (.type "LookupError") := by decide +kernel
abbrev tailV : List Value := [.type "ValueError", .type "Exception", .type "BaseException", .type "object"]
abbrev tailL : List Value := [.type "LookupError", .type "Exception", .type "BaseException", .type "object"]
structure XOne (K : PySem.W.Frag) (mg : Str → Option Value) (x f qn : Str) (newId : String) (tl : List Value) (C : Addr) : Prop where
  ex : ∃ fI, PySem.XcD.XTxt K mg x f newId tl C fI ∧ PySem.XcD.XIni K f qn fI
def xoB (K : PySem.W.Frag) (x f : Str) (newId : String) (tl : List Value) : Bool :=
  [PySem.W.excInitIn K (He.ga K x) tl newId, PySem.W.excOver K (He.ga K x) tl, decide (PySem.W.findIn K (.ref (He.ga K x)) "__setattr__" = some (some (.builtin "object.__setattr__"))), decide (PySem.W.findIn K (.ref (He.ga K x)) f = some none),
   decide (PySem.W.findIn K (.ref (He.ga K x)) "__init__" = some (some (.ref (He.ma K (He.ga K x) "__init__")))), decide (PySem.W.typeIn K (.ref (He.ma K (He.ga K x) "__init__")) = some (.type "function")), PySem.W.keepIn K (.ref (He.ga K x)),
   decide (PySem.W.subIn K (.ref (He.ga K x)) (.type "BaseException") = some true), decide (PySem.W.typeIn K (.ref (He.ga K x)) = some (.type "type")), PySem.W.hasDictIn K (He.ga K x)].all id
theorem all_at {l : List Bool} (h : l.all id = true) (i : Nat) {b : Bool} (e : l[i]? = some b) : b = true := List.all_eq_true.mp h b (List.mem_of_getElem? e)
theorem xoB_ok {K : PySem.W.Frag} {mg : Str → Option Value} {x f : Str} {newId : String} {tl : List Value} (h : xoB K x f newId tl = true) (g : mg x = some (.ref (He.ga K x))) : PySem.XcD.XTxt K mg x f newId tl (He.ga K x) (He.ma K (He.ga K x) "__init__") := by
  unfold xoB at h
  simp only [List.all_cons, List.all_nil, id, Bool.and_true, Bool.and_eq_true, decide_eq_true_eq] at h
  obtain ⟨h1, h2, h3, h4, h5, h6, h7, h8, h9, h10⟩ := h
  exact ⟨g, h1, h2, h3, h4, h5, h6, h7, h8, h9, h10⟩
def x0B (K : PySem.W.Frag) (x : Str) (newId : String) (tl : List Value) : Bool :=
  [PySem.W.excIn K (He.ga K x) tl newId, PySem.W.keepIn K (.ref (He.ga K x)), decide (PySem.W.subIn K (.ref (He.ga K x)) (.type "BaseException") = some true), decide (PySem.W.typeIn K (.ref (He.ga K x)) = some (.type "type"))].all id
theorem x0B_ok {K : PySem.W.Frag} {mg : Str → Option Value} {x : Str} {newId : String} {tl : List Value} (h : x0B K x newId tl = true) (g : mg x = some (.ref (He.ga K x))) : X0Txt K mg x newId tl (He.ga K x) := by
  unfold x0B at h
  simp only [List.all_cons, List.all_nil, id, Bool.and_true, Bool.and_eq_true, decide_eq_true_eq] at h
  obtain ⟨h1, h2, h3, h4⟩ := h
  exact ⟨g, h1, h2, h3, h4⟩
section
variable {X : Cx} {W : WX} {pos : Pos}
theorem pd_cls {x : Str} {C : Addr} (hg : Gl X x) (hm : X.mg x = some (.ref C)) (hd : (x == ("__debug__" : Str)) = false := by decide) : PD X (.Name x pos) (dC (.ref C)) := pd_glob (w := .ref C) (v := .ref C) hg hm rfl rfl hd
theorem pxs_raiseO {C : Addr} {x f qn : Str} {B newId initId : String} {tl : List Value} {a : Expr} {ta : DE} {p pos2 : Pos} {k : Nat} (hc : X.calm = true) (tk : Takes X W) (tlo : PySem.XcD.Tl B newId initId tl) (T : XOne X.K X.mg x f qn newId tl C)
    (hr : Room k X.A) (hg : Gl X x) (ha : PD X a ta) (hdb : (x == ("__debug__" : Str)) = false := by decide) (he : starEach (a :: []) X.env = (false, eval a X.env) :: starEach [] X.env := by rfl) (hpl : (backTo pos (starEach [] X.env)).any (·.1) = false := by rfl) :
    PXS X W (.Raise (some (.Call (.Name x p) [a] [] pos)) none pos2) (fun w => dRaise1 w C f ta) := by
  obtain ⟨fI, T1, T2⟩ := T.ex
  exact pxs_raise1 hc tk tlo T1 T2 hr hg ha hdb he hpl
end
end Dz
/-! sorted(set(xs)) of a list of ints -/
namespace PySem
namespace SetI
open L2 PyProof.Rows PySem.Spec
abbrev nset (w : World) : Obj := { cls := .type "set", dict := none, data := .set #[] 0 (.fresh 0 0 (!w.params.followText "set-order")) }
section
variable {P : Program} {w : World} {A : Around} {E : Value → Shared → Prop} {s : Shared}
theorem call_set_lstI {l : Addr} {items : Array Value} (ns : List Int) {Q : Value → Shared → Prop} (hh : A.handled = none) (hl : s.heap.IsList l items) (hit : IntsAre items.toList ns) (hb : ns.length + 1 < scanBound)
    (h : ∀ (h' : Heap) (tk c : Nat), SetR w h' s.heap.objs.size (fun j => decide (j ∈ ns)) c → c ≤ ns.length → (∀ b o, s.heap.get? b = some o → h'.get? b = some o) → Q (.ref s.heap.objs.size) { s with heap := h', toks := tk }) :
    wpAny (model P w) A (call (.type "set") [.ref l]) Q E s := by
  have isz : items.size = ns.length := by
    have q := IntsAre.length hit
    rwa [Array.length_toList] at q
  obtain ⟨cc, tl, hmro⟩ := F.called_set.mro
  have z1 := F.called_set.made
  have z2 := F.called_set.sub
  refine wpAny_call (codeAny_of_tree (show wpAny _ _ (callAny (.type "set") _) _ _ _ from wpAny_pure ⟨Code.quiet_builtin _ (by decide +kernel), codeAny_builtin F.entry_type_call ?_⟩))
  rw [Around.under_plain (weight_type_call_type "set" [.ref l] []) rfl]
  have z3 := F.called_set.notType
  have z4 := F.called_set.canCreate
  have z5 := F.typeCall_set_1 (.ref l)
  repeat (any_goals (first | assumption | wp_step))
  refine codeAny_mono (code_set_led1 (.ref l) (E := E) (Q₁ := fun obj s1 => obj = .ref s.heap.objs.size ∧ s1 = { s with heap := s.heap.push (nset w) }) ⟨rfl, rfl⟩) fun r s1 hr => ?_
  rcases r with er | (_ | _ | _ | obj)
  · exact hr
  · exact hr.elim
  · exact hr.elim
  · exact hr.elim
  obtain ⟨rfl, rfl⟩ := hr
  have hS : (s.heap.push (nset w)).get? s.heap.objs.size = some (nset w) := Heap.get?_push_size _ rfl
  have hT : Shared.TypeIs { s with heap := s.heap.push (nset w) } (.ref s.heap.objs.size) "set" := ⟨_, hS, rfl⟩
  have z6 := F.called_set.init.lookup
  have z7 := F.called_set.init.bind (.ref s.heap.objs.size)
  repeat (any_goals (first | assumption | wp_step))
  refine codeAny_mono (codeAny_call_builtin (R := wants (fun r s2 => r = .none ∧ ∃ h' tk c, s2 = { s with heap := h', toks := tk } ∧ SetR w h' s.heap.objs.size (fun j => decide (j ∈ ns)) c ∧ c ≤ ns.length ∧ (∀ b o, s.heap.get? b = some o → h'.get? b = some o)) E)
    F.called_set.init.plain F.entry_set_init (check_set_init_1 hT ?_)) fun r2 s2 hr2 => ?_
  · obtain ⟨ol, hol, hcl, nl, hdl⟩ := hl
    obtain ⟨oc, od, odt, osl⟩ := ol
    simp only at hcl hdl
    subst hcl; subst hdl
    have hol1 : (s.heap.push (nset w)).get? l = some { cls := .type "list", dict := od, data := .seq items nl, slots := osl } := Heap.get?_push_of_some _ hol
    have y1 := F.sub_list_set
    have y2 := F.sub_list_frozenset
    have y3 : (Value.type "list" == Value.type "dict") = false := by decide
    have hl1 : (s.heap.push (nset w)).IsList l items := ⟨_, hol1, rfl, nl, rfl⟩
    unfold Builtin.«set.__init__» noKeywords Builtin.Frozenset.updateFrom
    generalize hPI : pyIter = PI
    wp_walk
    subst hPI
    refine wpAny_pyIter_list hl1 (wpAny_bind (wpAny_runValue ?_))
    have lS : l < s.heap.objs.size := Heap.lt_size hol
    have h3 : A.in1.in1.in1.handled = none := by simp [hh]
    have nI : l ≠ (s.heap.push (nset w)).objs.size := by rw [Heap.size_push]; exact Nat.ne_of_lt (Nat.lt_succ_of_lt lS)
    have Sf : s.heap.objs.size ∉ [(s.heap.push (nset w)).objs.size, l] := by
      rw [Heap.size_push]
      intro hm
      simp only [List.mem_cons, List.not_mem_nil, or_false] at hm
      rcases hm with hm | hm
      · exact absurd hm (Nat.ne_of_lt (Nat.lt_succ_self _))
      · exact absurd hm (Nat.ne_of_gt lS)
    have vl : ∀ (i : Nat) (v : Value), items[i]? = some v → ∃ k t, ns[i]? = some k ∧ v = .int k t := fun i v hv => by
      have hi : i < ns.length := by rw [← isz]; exact (Array.getElem?_eq_some_iff.mp hv).1
      obtain ⟨t, e⟩ := PyProof.Rows.IntsAre.int_at hit i v (by rw [Array.getElem?_toList]; exact hv)
      exact ⟨ns[i], t, List.getElem?_eq_getElem hi, by rw [e, List.getD_eq_getElem?_getD, List.getElem?_eq_getElem hi] <;> rfl⟩
    refine set_update_ints ((Walks.list h3 _ l nI items).toS) s.heap.objs.size Sf ns isz hb vl (items.size - 0) 0 _ (by omega) (Nat.zero_le _) ⟨⟨_, Heap.get?_push_size _ rfl, rfl, rfl⟩, (hl1.push _)⟩ ?hS0 ?hR
    case hS0 => exact ⟨0, Nat.le_refl 0, setR_new_at (Heap.get?_push_of_some _ hS)⟩
    case hR =>
      intro s' c' hm hc' hS'
      obtain ⟨h', g2, d', tk', os'⟩ := s'
      have eg : g2 = s.gens := hm.gens
      have ed : d' = s.drawn := hm.drawn
      have eo : os' = s.os := hm.os
      subst eg; subst ed; subst eo
      show wpAny _ _ _ _ _ _
      refine wpAny_pure ?_
      show wpAny _ _ (ret Value.none) _ _ _
      rw [isz] at hc'
      refine wpAny_pure ⟨rfl, h', tk', c', rfl, hS', hc', fun b o e => ?_⟩
      have b0 : b < s.heap.objs.size := Heap.lt_size e
      refine hm.heap b o (fun hm2 => ?_) (Heap.get?_push_of_some _ (Heap.get?_push_of_some _ e))
      simp only [List.mem_cons, List.not_mem_nil, or_false] at hm2
      rcases hm2 with hm2 | hm2
      · exact absurd hm2 (Nat.ne_of_lt b0)
      · rw [Heap.size_push] at hm2
        exact absurd hm2 (Nat.ne_of_lt (Nat.lt_succ_of_lt b0))
  · rcases r2 with er | (_ | _ | _ | r)
    · exact hr2
    · exact hr2.elim
    · exact hr2.elim
    · exact hr2.elim
    obtain ⟨rfl, h', tk, c', rfl, hS', hc', hk'⟩ := hr2
    repeat (any_goals (first | assumption | wp_step))
    exact h _ _ _ hS' hc' hk'
end
end SetI
end PySem
namespace Dz
open PySem PySem.Spec PyProof.Rows L2
section
variable {X : Cx} {pos : Pos}
theorem cr_setL (hc : X.calm = true) : CallR X (.type "set") (fun xs H Q => ∃ (p : Addr) (ns : List Int), xs = [.ref p] ∧ SqL X.K H p (ns.map V.int) ∧ ns.length ≤ 1000 ∧ ∀ a c, H a = none → c ≤ ns.length → Q (.ref a) (upd H a (SetO X.w a (fun j => decide (j ∈ ns)) c))) := by
  intro pins s σ H xs us Q I r h
  obtain ⟨p, ns, rfl, hs, hl, q⟩ := h
  obtain ⟨its, rv, pl, _⟩ := I.list hs
  rw [Vals.ref1 r]
  refine PySem.SetI.call_set_lstI ns (I.ok.hd hc) pl.isList (by simpa using rv.ints) (by unfold scanBound; omega) fun h' tk c R hc' hk => ?_
  exact ⟨.ref _, _, I.laid (t' := tk) hk (Nat.le_refl _) (setO_new R), rfl, q _ c (I.hok.fresh (Nat.le_refl _)) hc'⟩
abbrev rDivW : D2 := rI CDivW fun i j => i / j
theorem od_fdivW : OpR X (binaryOp .FloorDiv) (lift2 X.K rDivW) := od_I op_fdivW
/-- sorted(set(e)), e a list of ints -/
def rSS (R : List D → Sg → Prop) (w : D) (s1 : Sg) : Prop := ∃ ns : List Int, asL s1 w = some (ns.map D.int) ∧ ns.length < 64 ∧ ∀ ys : List Int, ys.Pairwise (· < ·) → (∀ k : Int, k ∈ ys ↔ k ∈ ns) → R (ys.map D.int) s1
def dSortSet (ta : DE) : DA := fun env s R => ta env s (rSS R)
theorem nl_sortSet {e : Expr} {ta : DE} {p p2 pos2 : Pos} (hc : X.calm = true) (hg : Gl X "sorted") (hm : X.mg "sorted" = none) (hg2 : Gl X "set") (hm2 : X.mg "set" = none) (ha : PD X e ta)
    (he : starEach [e] X.env = (false, eval e X.env) :: starEach [] X.env := by rfl) (hpl : (backTo pos2 (starEach [] X.env)).any (·.1) = false := by rfl)
    (he2 : starEach [.Call (.Name "set" p2) [e] [] pos2] X.env = (false, eval (.Call (.Name "set" p2) [e] [] pos2) X.env) :: starEach [] X.env := by rfl) (hpl2 : (backTo pos (starEach [] X.env)).any (·.1) = false := by rfl) :
    PNL X (.Call (.Name "sorted" p) [.Call (.Name "set" p2) [e] [] pos2] [] pos) (dSortSet ta) :=
  pe_imp (pe_callB (cr_sortedSet hc) hg hm (show bootBuiltins "sorted" = some (.builtin "sorted") from bb_sorted) (pa_cons (pe_callTy (cr_setL hc) hg2 hm2 bb_set (pda_cons ha pda_nil he) (by decide) (by decide) he hpl) pa_nil he2) (by decide) (by decide) he2 hpl2) fun σ H Q ⟨env, s, R, h1, h2, h3, h4⟩ => by
    refine ⟨env, s, (fun zs s1 => ∃ w, zs = [w] ∧ rSS R w s1), h1, h2, ?_, fun zs s1 us H1 q e1 m1 r1 => ?_⟩
    · have ee : (fun (x : D) (s1 : Sg) => ∃ w, [x] = [w] ∧ rSS R w s1) = rSS R := by
        funext x s1
        exact propext ⟨fun ⟨w, e, q⟩ => by cases e; exact q, fun q => ⟨x, rfl, q⟩⟩
      show ta env s (fun (x : D) (s1 : Sg) => ∃ w, [x] = [w] ∧ rSS R w s1)
      rw [ee]
      exact h3
    · obtain ⟨w, rfl, ns, ha, hl, q⟩ := q
      obtain ⟨u, ur, rfl, r2, r3⟩ := r1
      cases (show ur = [] from r3)
      obtain ⟨b, vs, rfl, f, g⟩ := asL_sq ha r2 m1
      cases g.ints
      refine ⟨b, ns, rfl, f, by omega, fun a c na hc' => ⟨a, fun j => decide (j ∈ ns), c, rfl, upd_same, by omega, fun ys pp pw hk hln np => ?_⟩⟩
      have e2 : Stp H1 s1 (upd H1 a (SetO X.w a (fun j => decide (j ∈ ns)) c)) s1 := .new na
      exact h4 (ys.map D.int) s1 (ys.map V.int) _ (q ys pw fun k => (hk k).trans (by simp)) (e1.trans e2) (m1.new na) Reps.ofInts pp np
end
/-- what repr can show, also what is no list -/
structure RptU (w : D) : Prop where
  n : ∃ n, fit w n ∧ n ≤ 60
  l : lfs w
  w : wgt w ≤ 15000
theorem Rpt.u {w : D} (h : Rpt w) : RptU w := ⟨h.n, h.l, h.w⟩
theorem rReprU_of {w : D} {s : Sg} {R : KD} (h : RptU w) (q : R (.str (pyD w).shown) s) : rReprU [w] s R := by
  obtain ⟨n, f, hn⟩ := h.n
  obtain ⟨e, c, d⟩ := fit_py w n f
  obtain ⟨a1, a2, a3⟩ := show_fit w n f h.l
  have l := PyData.shown_le_bulk 61 (by decide) (pyD w) (PyData.leavesShort_of_canLay0 61 _ c a2)
  have hw := h.w
  rw [a3] at l
  have p := pyOf_fit (s := s) f
  unfold rReprU
  dsimp only
  rw [p]
  exact ⟨a1, by omega, by omega, q⟩
end Dz
/-! the readings' combinators, applied whole -/
namespace Dz
open PySem PySem.Spec PyProof.Rows L2
theorem dSeq_ap (t u : DS) : ∀ D env s, dSeq t u D env s = (t { D with nx := u D } env s) := fun _ _ _ => rfl
theorem dIf_ap (c : DT) (t u : DS) : ∀ D env s, dIf c t u D env s = (c env s fun b s1 => if b = true then t D env s1 else u D env s1) := fun _ _ _ => rfl
theorem dB_ap (t : DE) : ∀ env s R, dB t env s R = (t env s fun w s1 => match w with
  | .bl b => R b s1
  | _ => False) := fun _ _ _ => rfl
theorem dOp_ap (r : D2) (ta tb : DE) : ∀ env s R, dOp r ta tb env s R = (ta env s fun x s1 => tb env s1 fun y s2 => r x y s2 R) := fun _ _ _ => rfl
theorem dUn_ap (r : D1) (ta : DE) : ∀ env s R, dUn r ta env s R = (ta env s fun x s1 => r x s1 R) := fun _ _ _ => rfl
theorem dVar_ap (i : Nat) : ∀ env s R, dVar i env s R = (match env[i]? with
  | some (some w) => R w s
  | _ => False) := fun _ _ _ => rfl
theorem dC_ap (w : D) : ∀ z0_ s R, dC w z0_ s R = (R w s) := fun _ _ _ => rfl
theorem dRet_ap (te : DE) : ∀ D env s, dRet te D env s = (te env s D.rt) := fun _ _ _ => rfl
theorem dRetN_ap : ∀ D z1_ s, dRetN  D z1_ s = (D.rt .non s) := fun _ _ _ => rfl
theorem dNx_ap : ∀ D env s, dNx  D env s = (D.nx env s) := fun _ _ _ => rfl
theorem dBrk_ap : ∀ D env s, dBrk  D env s = (D.bk env s) := fun _ _ _ => rfl
theorem dCnt_ap : ∀ D env s, dCnt  D env s = (D.ct env s) := fun _ _ _ => rfl
theorem dAsg_ap (te : DE) (g : DG) : ∀ D env s, dAsg te g D env s = (te env s fun w s1 => g w env s1 D.nx) := fun _ _ _ => rfl
theorem dSet_ap (i : Nat) (te : DE) : ∀ D env s, dSet i te D env s = (te env s fun w s1 => D.nx (env.set i (some w)) s1) := fun _ _ _ => rfl
theorem dPar_ap (i j : Nat) (ta : DA) : ∀ D env s, dPar i j ta D env s = (ta env s fun ws s1 => match ws with
  | [u, w] => D.nx ((env.set i (some u)).set j (some w)) s1
  | _ => False) := fun _ _ _ => rfl
theorem dPar3_ap (i j l : Nat) (ta : DA) : ∀ D env s, dPar3 i j l ta D env s = (ta env s fun ws s1 => match ws with
  | [u, w, z] => D.nx (((env.set i (some u)).set j (some w)).set l (some z)) s1
  | _ => False) := fun _ _ _ => rfl
theorem dgT_ap (n : Nat) (gs : DGs) : ∀ w env s R, dgT n gs w env s R = (match asQ s w with
  | some ws => ws.length = n ∧ gs ws env s R
  | none => False) := fun _ _ _ _ => rfl
theorem dgTt_ap (n : Nat) (gs : DGs) : ∀ w env s R, dgTt n gs w env s R = (match w with
  | .tup ws => ws.length = n ∧ gs ws env s R
  | _ => False) := fun _ _ _ _ => rfl
theorem dgCons_ap (g : DG) (gs : DGs) : ∀ ws env s R, dgCons g gs ws env s R = (match ws with
  | w :: r => g w env s fun env' s' => gs r env' s' R
  | [] => False) := fun _ _ _ _ => rfl
theorem dgNil_ap : ∀ ws env s R, dgNil  ws env s R = (match ws with
  | [] => R env s
  | _ => False) := fun _ _ _ _ => rfl
theorem dgN_ap (i : Nat) : ∀ w env s R, dgN i w env s R = (R (env.set i (some w)) s) := fun _ _ _ _ => rfl
theorem dCall_ap (sp : SpD) (t : DA) : ∀ env s R, dCall sp t env s R = (t env s fun ws s1 => sp ws s1 R X0) := fun _ _ _ => rfl
theorem dCons_ap (t : DE) (u : DA) : ∀ env s R, dCons t u env s R = (t env s fun x s1 => u env s1 fun xs s2 => R (x :: xs) s2) := fun _ _ _ => rfl
theorem dNil_ap : ∀ z0_ s R, dNil  z0_ s R = (R [] s) := fun _ _ _ => rfl
theorem dTup_ap (t : DA) : ∀ env s R, dTup t env s R = (t env s fun ws s1 => ws.length ≤ 1000000 ∧ R (.tup ws) s1) := fun _ _ _ => rfl
theorem dCB_ap (r : DL) (ta : DA) : ∀ env s R, dCB r ta env s R = (ta env s fun xs s1 => r xs s1 R) := fun _ _ _ => rfl
theorem dCN_ap (r : DN) (ta : DA) : ∀ env s R, dCN r ta env s R = (ta env s fun ws s1 => r ws s1 R) := fun _ _ _ => rfl
theorem dF_ap (t : DA) : ∀ env s R, dF t env s R = (t env s fun ws s1 => R (.lst ws) s1) := fun _ _ _ => rfl
theorem dM_ap (t : DA) : ∀ env s R, dM t env s R = (t env s fun ws s1 => ∀ p, s1.M p = none → R (.ref p) (s1.put p (.lst ws))) := fun _ _ _ => rfl
theorem dSz_ap (t : DA) : ∀ env s R, dSz t env s R = (t env s fun ws s1 => ws.length ≤ 1000000 ∧ R ws s1) := fun _ _ _ => rfl
theorem dExpr_ap (te : DE) : ∀ D env s, dExpr te D env s = (te env s fun _ s1 => D.nx env s1) := fun _ _ _ => rfl
theorem dNot_ap (t : DT) : ∀ env s R, dNot t env s R = (t env s fun c s1 => R (!c) s1) := fun _ _ _ => rfl
theorem dAnd_ap (t u : DT) : ∀ env s R, dAnd t u env s R = (t env s fun c s1 => if c = true then u env s1 R else R false s1) := fun _ _ _ => rfl
theorem dOr_ap (t u : DT) : ∀ env s R, dOr t u env s R = (t env s fun c s1 => if c = true then R true s1 else u env s1 R) := fun _ _ _ => rfl
theorem dAndV_ap (t u : DE) : ∀ env s R, dAndV t u env s R = (t env s fun w s1 => match w with
  | .bl c => if c = true then u env s1 R else R (.bl false) s1
  | _ => False) := fun _ _ _ => rfl
theorem dOrV_ap (t u : DE) : ∀ env s R, dOrV t u env s R = (t env s fun w s1 => match w with
  | .bl c => if c = true then R (.bl true) s1 else u env s1 R
  | _ => False) := fun _ _ _ => rfl
theorem dNotV_ap (t : DE) : ∀ env s R, dNotV t env s R = (t env s fun w s1 => match w with
  | .bl c => R (.bl (!c)) s1
  | _ => False) := fun _ _ _ => rfl
theorem dIfE_ap (t : DT) (ta tb : DE) : ∀ env s R, dIfE t ta tb env s R = (t env s fun c s1 => if c = true then ta env s1 R else tb env s1 R) := fun _ _ _ => rfl
theorem dChain_ap (r r' : D2) (ta tb tc : DE) : ∀ env s R, dChain r r' ta tb tc env s R = (ta env s fun x s1 => tb env s1 fun y s2 => r x y s2 fun z s3 => match z with
  | .bl true => tc env s3 fun w s4 => r' y w s4 R
  | .bl false => R (.bl false) s3
  | _ => False) := fun _ _ _ => rfl
theorem dFrz_ap (t : DE) : ∀ env s R, dFrz t env s R = (t env s fun w s1 => match w with
  | .ref a => (match s1.M a with
    | some (.lst ws) => R (.lst ws) (s1.del a)
    | some (.dic ks ws) => R (.dic ks ws) (s1.del a)
    | _ => False)
  | _ => False) := fun _ _ _ => rfl
theorem dIt_ap (te : DE) : ∀ env s R, dIt te env s R = (te env s fun w s1 => match asI s1 w with
  | some ws => R w ws s1
  | none => False) := fun _ _ _ => rfl
theorem dRng1_ap (ta : DA) : ∀ env s R, dRng1 ta env s R = (ta env s fun ws s1 => match ws with
  | [.int j] => -1000000000 < j ∧ j < 1000000000 ∧ R (.lst (rg 0 j.toNat)) (rg 0 j.toNat) s1
  | _ => False) := fun _ _ _ => rfl
theorem dRng2_ap (ta : DA) : ∀ env s R, dRng2 ta env s R = (ta env s fun ws s1 => match ws with
  | [.int i, .int j] => (-1000000000 < i ∧ i < 1000000000 ∧ -1000000000 < j ∧ j < 1000000000) ∧ R (.lst (rg i (j - i).toNat)) (rg i (j - i).toNat) s1
  | _ => False) := fun _ _ _ => rfl
theorem dSl_ap (te : DE) (tl th : DO) : ∀ env s R, dSl te tl th env s R = (te env s fun x s1 => tl env s1 fun l s2 => th env s2 fun u s3 => rSlU x l u s3 R) := fun _ _ _ => rfl
theorem dNoPart_ap : ∀ z0_ s R, dNoPart  z0_ s R = (R none s) := fun _ _ _ => rfl
theorem dPart_ap (t : DE) : ∀ env s R, dPart t env s R = (t env s fun w s1 => match w with
  | .int i => R (some i) s1
  | _ => False) := fun _ _ _ => rfl
theorem dCat_ap (ta tb : DE) : ∀ env s R, dCat ta tb env s R = (ta env s fun x s1 => tb env s1 fun y s2 => match asL s2 x, asL s2 y with
  | some a, some b => a.length + b.length ≤ 1000000 ∧ R (a ++ b) s2
  | _, _ => False) := fun _ _ _ => rfl
theorem dRep_ap (ta tb : DE) : ∀ env s R, dRep ta tb env s R = (ta env s fun x s1 => tb env s1 fun y s2 => match x, y with
  | .ref l, .int k => (match s2.M l with
    | some (.lst ws) => -1000000 ≤ k ∧ k ≤ 1000000 ∧ ws.length * k.toNat ≤ 1000000 ∧ R (List.replicate k.toNat ws).flatten (s2.del l)
    | _ => False)
  | _, _ => False) := fun _ _ _ => rfl
theorem dLc_ap (ti : DI) (g : DG) (tt : DT) (te : DE) (vs : List Nat) : ∀ env s R, dLc ti g tt te vs env s R = (ti env s fun w ws s1 => dLcL w ws g tt te vs env R ws [] s1) := fun _ _ _ => rfl
theorem dFor_ap (ti : DI) (g : DG) (tb : DS) : ∀ DD env s, dFor ti g tb DD env s = (ti env s fun w ws s1 => dForL w ws g tb DD ws env s1) := fun _ _ _ => rfl
theorem dAppend_ap (to ta : DE) : ∀ env s R, dAppend to ta env s R = (to env s fun x s1 => trk x s1 fun _ _ => ta env s1 fun y s2 => trk x s2 fun l ws => ws.length < 1000000 ∧ R .non (s2.put l (.lst (ws ++ [y])))) := fun _ _ _ => rfl
theorem dPop_ap (to : DE) : ∀ env s R, dPop to env s R = (to env s fun x s1 => trk x s1 fun l ws => match ws[ws.length - 1]? with
  | some y => R y (s1.put l (.lst ws.dropLast))
  | none => False) := fun _ _ _ => rfl
theorem dPopAt_ap (to ta : DE) : ∀ env s R, dPopAt to ta env s R = (to env s fun x s1 => trk x s1 fun l _ => ta env s1 fun y s2 => rPopAtD l R y s2) := fun _ _ _ => rfl
theorem dSetIx_ap (tv to ti : DE) : ∀ DD env s, dSetIx tv to ti DD env s = (tv env s fun v s1 => to env s1 fun x s2 => ti env s2 fun y s3 => trk x s3 fun l ws => match y with
  | .int i => (match ixN ws.length i with
    | some k => DD.nx env (s3.put l (.lst (ws.set k v)))
    | none => False)
  | _ => False) := fun _ _ _ => rfl
theorem dYes_ap : ∀ z0_ s R, dYes  z0_ s R = (R true s) := fun _ _ _ => rfl
theorem dRev_ap (te : DE) : ∀ env s R, dRev te env s R = (te env s fun x s1 => match asL s1 x with
  | some ws => R (.lst ws.reverse) s1
  | none => False) := fun _ _ _ => rfl
theorem rIsN_ap (g : Bool → Bool) : ∀ x y s R, rIsN g x y s R = (match y with
  | .non => R (.bl (g (isNon x))) s
  | _ => False) := fun _ _ _ _ => rfl
theorem rAddU_ap : ∀ x y s R, rAddU  x y s R = (match x, y with
  | .int i, .int j => R (.int (i + j)) s
  | .str a, .str b => a.length + b.length ≤ 1000000 ∧ R (.str (a ++ b)) s
  | .tup a, .tup b => a.length + b.length ≤ 1000000 ∧ R (.tup (a ++ b)) s
  | x, y => (match asL s x, asL s y with
    | some a, some b => a.length + b.length ≤ 1000000 ∧ R (.lst (a ++ b)) s
    | _, _ => False)) := fun _ _ _ _ => rfl
theorem rEqv_ap (g : Bool → Bool) : ∀ x y s R, rEqv g x y s R = (match x, y with
  | .int i, .int j => R (.bl (g (decide (i = j)))) s
  | .str i, .str j => R (.bl (g (decide (i = j)))) s
  | .bl i, .bl j => R (.bl (g (decide (i = j)))) s
  | x, y => (match pyOf s x, pyOf s y with
    | some d, some e => SeqAt.shaped d = true ∧ SeqAt.shaped e = true ∧ R (.bl (g (PyData.eqv d e))) s
    | _, _ => False)) := fun _ _ _ _ => rfl
theorem rInt2_ap (g : Int → Int → Int) : ∀ ws s R, rInt2 g ws s R = (match ws with
  | [.int i, .int j] => R (.int (g i j)) s
  | _ => False) := fun _ _ _ => rfl
theorem rI_ap (C : Int → Int → Prop) (g : Int → Int → Int) : ∀ x y s R, rI C g x y s R = (match x, y with
  | .int i, .int j => C i j ∧ R (.int (g i j)) s
  | _, _ => False) := fun _ _ _ _ => rfl
theorem rCmp_ap (pi : Int → Int → Bool) (ps : List Nat → List Nat → Bool) : ∀ x y s R, rCmp pi ps x y s R = (match x, y with
  | .int i, .int j => R (.bl (pi i j)) s
  | .str a, .str b => R (.bl (ps a.cps.toList b.cps.toList)) s
  | _, _ => False) := fun _ _ _ _ => rfl
theorem rIxU_ap : ∀ x y s R, rIxU  x y s R = (match y with
  | .int i => (match x with
    | .str z => z.length ≤ 1000000 ∧ (match L2.atI z.cps.toList i with
      | some c => R (.str ⟨#[c]⟩) s
      | none => False)
    | x => (match asQ s x with
      | some ws => (match L2.atI ws i with
        | some w => R w s
        | none => False)
      | none => False))
  | _ => False) := fun _ _ _ _ => rfl
theorem rAbs_ap : ∀ ws s R, rAbs  ws s R = (match ws with
  | [.int i] => R (.int (if i < 0 then -i else i)) s
  | _ => False) := fun _ _ _ => rfl
theorem rToInt_ap : ∀ ws s R, rToInt  ws s R = (match ws with
  | [.int i] => R (.int i) s
  | [.bl b] => R (.int (if b then 1 else 0)) s
  | _ => False) := fun _ _ _ => rfl
theorem rListU_ap : ∀ ws s R, rListU  ws s R = (match ws with
  | [.str z] => z.length ≤ 1000000 ∧ R (z.cps.toList.map fun c => .str ⟨#[c]⟩) s
  | [w] => (match asQ s w with
    | some us => R us s
    | none => False)
  | _ => False) := fun _ _ _ => rfl
theorem rLenU_ap : ∀ ws s R, rLenU  ws s R = (match ws with
  | [.str z] => z.length ≤ 1000000 ∧ R (.int z.length) s
  | [w] => (match asQ s w with
    | some us => R (.int us.length) s
    | none => False)
  | _ => False) := fun _ _ _ => rfl
theorem rMulU_ap : ∀ x y s R, rMulU  x y s R = (match x, y with
  | .int i, .int j => CMul i j ∧ R (.int (i * j)) s
  | .ref l, .int k => (match s.M l with
    | some (.lst ws) => -1000000 ≤ k ∧ k ≤ 1000000 ∧ ws.length * k.toNat ≤ 1000000 ∧ R (.lst (List.replicate k.toNat ws).flatten) (s.del l)
    | _ => False)
  | _, _ => False) := fun _ _ _ _ => rfl
theorem rNeg_ap : ∀ x s R, rNeg  x s R = (match x with
  | .int i => R (.int (-i)) s
  | _ => False) := fun _ _ _ => rfl
theorem rIsi_ap : ∀ ws s R, rIsi  ws s R = (match ws with
  | [x, .ty c] => (match tyN s x with
    | some n => tyOk c = true ∧ R (.bl (subT n c)) s
    | none => False)
  | [x, .tup cs] => (match tyN s x, tyNames cs with
    | some n, some l => l.all tyOk = true ∧ R (.bl (isiT n l)) s
    | _, _ => False)
  | _ => False) := fun _ _ _ => rfl
theorem dFJ_ap (ts : List DE) : ∀ env s R, dFJ ts env s R = (dJs ts Str.empty env s fun z s1 => R (.str z) s1) := fun _ _ _ => rfl
theorem dFmt_ap (t : DE) : ∀ env s R, dFmt t env s R = (t env s fun w s1 => match w with
  | .str y => y.length ≤ 1000000 ∧ R (.str y) s1
  | .int i => i.natAbs.log2 < 1920 ∧ R (.str (toString i)) s1
  | _ => False) := fun _ _ _ => rfl
theorem dDGet_ap (td ti : DE) : ∀ env s R, dDGet td ti env s R = (td env s fun x s1 => ti env s1 fun y s2 => rDGet x y s2 R) := fun _ _ _ => rfl
theorem dDGet2_ap (td ti tx : DE) : ∀ env s R, dDGet2 td ti tx env s R = (td env s fun x s1 => (asD s1 x ≠ none) ∧ ti env s1 fun y s2 => tx env s2 fun z s3 => match keyD y, asD s3 x with
  | some k, some (ks, ws) => R ((dval ks ws k).getD z) s3
  | _, _ => False) := fun _ _ _ => rfl
theorem dDIn_ap (g : Bool → Bool) (ti td : DE) : ∀ env s R, dDIn g ti td env s R = (ti env s fun y s1 => td env s1 fun x s2 => match keyD y, asD s2 x with
  | some k, some (ks, ws) => R (.bl (g (dval ks ws k).isSome)) s2
  | _, _ => False) := fun _ _ _ => rfl
theorem dDSet_ap (tv td ti : DE) : ∀ DD env s, dDSet tv td ti DD env s = (tv env s fun w s1 => td env s1 fun x s2 => ti env s2 fun y s3 => rDSet DD env w x y s3) := fun _ _ _ => rfl
theorem dDF_ap (t : DN2) : ∀ env s R, dDF t env s R = (t env s fun ks ws s1 => ks.Nodup → ks.length = ws.length → R (.dic ks ws) s1) := fun _ _ _ => rfl
theorem dDM_ap (t : DN2) : ∀ env s R, dDM t env s R = (t env s fun ks ws s1 => ks.Nodup → ks.length = ws.length → ∀ p, s1.M p = none → R (.ref p) (s1.put p (.dic ks ws))) := fun _ _ _ => rfl
theorem rTupU_ap : ∀ ws s R, rTupU  ws s R = (match ws with
  | [.tup us] => R (.tup us) s
  | [w] => (match asL s w with
    | some us => R (.tup us) s
    | none => False)
  | _ => False) := fun _ _ _ => rfl
theorem dStar_ap (te : DE) (u : DA) : ∀ env s R, dStar te u env s R = (te env s fun x s1 => match asQ s1 x with
  | some ws => u env s1 fun ys s2 => R (ws ++ ys) s2
  | none => False) := fun _ _ _ => rfl
theorem dExtend_ap (to ta : DE) : ∀ env s R, dExtend to ta env s R = (to env s fun x s1 => trk x s1 fun l _ => ta env s1 fun y s2 => rExtendD l R y s2) := fun _ _ _ => rfl
theorem dFld_ap (C : Addr) (NS : List Str) (i : Nat) (te : DE) : ∀ env s R, dFld C NS i te env s R = (te env s fun x s1 => match x with
  | .ref a => (match insM C NS (s1.M a) with
    | some ws => (match ws[i]? with
      | some w => R w s1
      | none => False)
    | none => False)
  | _ => False) := fun _ _ _ => rfl
theorem dSetFld_ap (C : Addr) (NS : List Str) (i : Nat) (tv to : DE) : ∀ DD env s, dSetFld C NS i tv to DD env s = (tv env s fun w s1 => to env s1 fun x s2 => match x with
  | .ref a => (match insM C NS (s2.M a) with
    | some ws => i ≤ ws.length ∧ DD.nx env (s2.put a (insO C NS (iput ws i w)))
    | none => False)
  | _ => False) := fun _ _ _ => rfl
theorem dMeth_ap (C : Addr) (NS : List Str) (sp : SpD) (to : DE) (ta : DA) : ∀ env s R, dMeth C NS sp to ta env s R = (to env s fun x s1 => match x with
  | .ref a => (match insM C NS (s1.M a) with
    | some _ => ta env s1 fun us s2 => sp (.ref a :: us) s2 R X0
    | none => False)
  | _ => False) := fun _ _ _ => rfl
theorem dMake_ap (C : Addr) (NS : List Str) (sp : SpD) (ta : DA) : ∀ env s R, dMake C NS sp ta env s R = (ta env s fun us s1 => ∀ a, s1.M a = none → sp (.ref a :: us) (s1.put a (insO C NS [])) (fun w s2 => w = .non ∧ R (.ref a) s2) X0) := fun _ _ _ => rfl
theorem dTab_ap (tab : List (Str × List Str)) (ti : DE) : ∀ env s R, dTab tab ti env s R = (ti env s fun y s1 => match y with
  | .str z => (match tab.find? fun q => decide (q.1 = z) with
    | some q => R (.tup (q.2.map D.str)) s1
    | none => False)
  | _ => False) := fun _ _ _ => rfl
theorem dAugS_ap (i : Nat) (te : DE) : ∀ D env s, dAugS i te D env s = (match env[i]? with
  | some (some (.str a)) => te env s fun w s1 => match w with
    | .str b => a.length + b.length ≤ 1000000 ∧ D.nx (env.set i (some (.str (a ++ b)))) s1
    | _ => False
  | _ => False) := fun _ _ _ => rfl
theorem dNever_ap : ∀ z0_ z1_ z2_, dNever  z0_ z1_ z2_ = (False) := fun _ _ _ => rfl
theorem dIndex_ap (to ta : DE) : ∀ env s R, dIndex to ta env s R = (to env s fun x s1 => (∃ ws, asL s1 x = some ws) ∧ ta env s1 fun y s2 => rIndexS x R y s2) := fun _ _ _ => rfl
theorem dIndexT_ap (to ta : DE) : ∀ env s R, dIndexT to ta env s R = (to env s fun x s1 => (∃ ws, x = .tup ws) ∧ ta env s1 fun y s2 => rIndexT x R y s2) := fun _ _ _ => rfl
theorem dTry_ap (EM : Value → Value → Option Bool) (i : Nat) (tb : WD → DS) (l : List (Value × DSu)) (Wo : WD) : ∀ DD env s, dTry EM i tb l Wo DD env s = (tb (wTry EM i Wo DD l) DD env s) := fun _ _ _ => rfl
theorem dCallX_ap (w : WD) (sp : SpD) (t : DA) : ∀ env s R, dCallX w sp t env s R = (t env s fun ws s1 => sp ws s1 R fun cls fs s2 => w cls fs env s2) := fun _ _ _ => rfl
theorem rIsE_ap (o : Orc) (a : Addr) (d : Option Addr) (cls : Value) : ∀ ws s R, rIsE o a d cls ws s R = (match ws with
  | [.exc a' d' _ _, .tup cs] => a' = a ∧ d' = d ∧ (∃ C, cls = .ref C ∧ o.xc C = true) ∧ ans ((clsVs cs).bind fun l => o.ka cls l) s R
  | [.exc a' d' _ _, c] => a' = a ∧ d' = d ∧ (∃ C, cls = .ref C ∧ o.xc C = true) ∧ ans ((clsV c).bind fun v => o.ko cls v) s R
  | _ => False) := fun _ _ _ => rfl
theorem dXf_ap (o : Orc) (a : Addr) (d : Option Addr) (cls : Value) (f : Str) (te : DE) : ∀ env s R, dXf o a d cls f te env s R = (te env s fun w s1 => match w with
  | .exc a' d' ns us => a' = a ∧ d' = d ∧ (∃ C, cls = .ref C ∧ o.xf C f = true) ∧ (match (ns.zip us).lookup f with
    | some v => R v s1
    | none => False)
  | _ => False) := fun _ _ _ => rfl
theorem dRaise1_ap (w : WD) (C : Addr) (f : Str) (ta : DE) : ∀ z0_ env s, dRaise1 w C f ta z0_ env s = (ta env s fun v s1 => w (.ref C) [(f, v)] env s1) := fun _ _ _ => rfl
theorem dRaise0_ap (w : WD) (C : Addr) : ∀ z0_ env s, dRaise0 w C z0_ env s = (w (.ref C) [] env s) := fun _ _ _ => rfl
theorem dSortSet_ap (ta : DE) : ∀ env s R, dSortSet ta env s R = (ta env s (rSS R)) := fun _ _ _ => rfl
end Dz
namespace Gz
open PySem PySem.Spec PyProof.Rows L2 Dz
theorem dListG_ap (tx : DGx) : ∀ env M R, dListG tx env M R = (tx env M fun xs M1 => xs.length ≤ 1000000 ∧ R xs M1) := fun _ _ _ => rfl
theorem dForG_ap (tx : DGx) (g : DG) (tb : DS) : ∀ DD env M, dForG tx g tb DD env M = (tx env M fun xs M1 => dForGL g tb DD xs env M1) := fun _ _ _ => rfl
end Gz
/-! zip of two lists, the pairs locked at once; len(set(ints)) -/
namespace Dz
open PySem PySem.Spec PyProof.Rows L2
def ItzF (K : PySem.W.Frag) (a b : Addr) : It :=
  ⟨(Itz K a b).go, fun i H v H' => ∃ T o x y, v = .ref T ∧ H T = none ∧ o.dict = none ∧ H' = upd H T (.frz o (.tup [x, y])) ∧ (∀ xs, SqL K H a xs → xs[i]? = some x) ∧ ∀ ys, SqL K H b ys → ys[i]? = some y, (Itz K a b).stop⟩
theorem turn_zipF {P : Program} {w : World} {K : PySem.W.Frag} {elts : List Expr} {kk : Nat} {tpos : Pos} {a b z TI TO i1 i2 : Addr} (D : ZipApart z TI TO i1 i2 a b) :
    Turn P w K (.Tuple elts kk tpos) (ItzF K a b) [z, TI, TO, i1, i2] z (fun i h => IsZip h z TI TO .none ∧ IsPair h TI (.ref i1) (.ref i2) ∧ (∃ x y, IsPair h TO x y) ∧ h.IsListIter i1 a i ∧ h.IsListIter i2 b i) :=
  have T0 := turn_zip (P := P) (w := w) (K := K) (elts := elts) (kk := kk) (tpos := tpos) D
  { mem := T0.mem
    obj := T0.obj
    keep := T0.keep
    done := T0.done
    self := T0.self
    item := by
      intro X hP hw hK hc i pins s σ H E I hf st hg
      subst hP hw hK
      obtain ⟨hz, hTI, ⟨x0, y0, hTO⟩, h1, h2⟩ := st
      obtain ⟨xs, ys, x, y, hqx, hqy, hx, hy⟩ := hg
      obtain ⟨its, rv, p, _⟩ := I.list hqx
      obtain ⟨its2, rv2, p2, _⟩ := I.list hqy
      obtain ⟨u, hu, ru⟩ := rv.get hx
      obtain ⟨u2, hu2, ru2⟩ := rv2.get hy
      have hzl : z < s.heap.objs.size := Heap.lt_size hz
      refine wpAny_pyNext_zip_item D hz hTI hTO h1 h2 p.isList p2.isList (x := u) (y := u2) (by simpa using hu) (by simpa using hu2) fun h' z' TO' h1' h2' hT hsz hk => ?_
      refine ⟨_, rfl, wpAny_letOwnedTupleGo_zip (s := { s with heap := h' }) z' fun h'' z'' sb => ?_⟩
      have hT2 := (sb.2 s.heap.objs.size (Nat.ne_of_gt hzl)).trans hT
      have out5 : ∀ c o, c ∉ [z, TI, TO, i1, i2] → s.heap.get? c = some o → h''.get? c = some o := fun c o hb q => by
        simp only [List.mem_cons, List.not_mem_nil, or_false, not_or] at hb
        exact (sb.2 c hb.1).trans (hk c o hb.1 hb.2.2.1 hb.2.2.2.1 hb.2.2.2.2 q)
      have I1 := I.turnedNew (t' := s.toks) (T := s.heap.objs.size) (ob := .frz { cls := .type "tuple", data := .seq #[u, u2] } (.tup [x, y])) out5 hf (Nat.le_refl _)
        ⟨hT2, by show 2 ≤ sizeLine; decide, [u, u2], .cons ru (.cons ru2 .nil), ⟨_, hT2, rfl, _, rfl⟩⟩
      refine ⟨.ref s.heap.objs.size, _, I1, rfl, ⟨_, _, x, y, rfl, I.hok.fresh (Nat.le_refl _), rfl, rfl, fun l hl => by rw [I.list_inj hl hqx]; exact hx, fun l hl => by rw [I.list_inj hl hqy]; exact hy⟩, ⟨z'', (sb.2 _ D.TIz).trans (hk _ _ D.TIz D.TITO D.TIi1 D.TIi2 hTI), ⟨u, u2, (sb.2 _ D.TOz).trans TO'⟩, h1'.at fun o q => (sb.2 _ D.i1z).trans q, h2'.at fun o q => (sb.2 _ D.i2z).trans q⟩, fun c hcm => ?_⟩
      have hlt : c < s.heap.objs.size := by
        obtain ⟨o1, e1, _⟩ := h1
        obtain ⟨o2, e2, _⟩ := h2
        simp only [List.mem_cons, List.not_mem_nil, or_false] at hcm
        rcases hcm with rfl | rfl | rfl | rfl | rfl
        · exact hzl
        · exact Heap.lt_size hTI
        · exact Heap.lt_size hTO
        · exact Heap.lt_size e1
        · exact Heap.lt_size e2
      rw [upd_ne (Nat.ne_of_lt hlt)]
      exact (hf c hcm).1 }
section
variable {X : Cx}
theorem pi_zipF {e e2 : Expr} {ta : TA} {p pos tpos : Pos} {elts : List Expr} {kk : Nat} (hg : Gl X "zip") (hm : X.mg "zip" = none) (ha : PA X [e, e2] ta)
    (hs : starEach [e, e2] X.env = (false, eval e X.env) :: starEach [e2] X.env := by rfl) (hpl : (backTo pos (starEach [e2] X.env)).any (·.1) = false := by rfl) :
    PI X (.Tuple elts kk tpos) (.Call (.Name "zip" p) [e, e2] [] pos) (fun σ H R => ta σ H fun vs H1 => ∃ a b xs ys, vs = [.ref a, .ref b] ∧ SqL X.K H1 a xs ∧ SqL X.K H1 b ys ∧ R (ItzF X.K a b) H1) := by
  refine ⟨fun pins s σ H R I h => ?_⟩
  refine Call_ (ld_blt I hg hm boot_zip (callWith_type1 (thn (ha.run pos pins s σ H _ I h) fun us s1 ⟨vs, H1, I1, r1, a, b, xs, ys, ex, hqx, hqy, q⟩ => ?_) hs hpl))
  subst ex
  obtain ⟨u1, u2, rfl, ra, rb⟩ : ∃ u1 u2, us = [u1, u2] ∧ RelV (.ref a) u1 ∧ RelV (.ref b) u2 := by
    cases r1 with
    | cons r rr => cases rr with
      | cons r' rr => cases rr; exact ⟨_, _, rfl, r, r'⟩
  cases ra
  cases rb
  obtain ⟨its, rv, p1, _⟩ := I1.list hqx
  obtain ⟨its2, rv2, p2, _⟩ := I1.list hqy
  refine call_zip_2 p1.isList p2.isList fun h' hz hTI hTO h1 h2 hsz hk => wpAny_pyIter_zip hz ?_
  refine ⟨_, [s1.heap.objs.size + 4, s1.heap.objs.size + 2, s1.heap.objs.size + 3, s1.heap.objs.size, s1.heap.objs.size + 1], _, _, H1, rfl, I1.kept (t' := s1.toks) hk, turn_zipF (PySem.W.ktu_apart s1.heap.objs.size a b p1.lt p2.lt), ⟨hz, hTI, ⟨_, _, hTO⟩, h1, h2⟩, fun c hcm => ?_, q⟩
  have hle : s1.heap.objs.size ≤ c := by
    simp only [List.mem_cons, List.not_mem_nil, or_false] at hcm
    rcases hcm with rfl | rfl | rfl | rfl | rfl
    · exact Nat.le_add_right _ _
    · exact Nat.le_add_right _ _
    · exact Nat.le_add_right _ _
    · exact Nat.le_refl _
    · exact Nat.le_add_right _ _
  exact I1.fpOk hle (I1.hok.fresh hle)
def zipD (us vs : List D) : List D := (us.zip vs).map fun p => .tup [p.1, p.2]
def dZip (ta : DA) : DI := fun env s R => ta env s fun ws s1 => match ws with
  | [.lst us, .lst vs] => R (.lst (zipD us vs)) (zipD us vs) s1
  | _ => False
theorem itok_zip {K : PySem.W.Frag} {H : Hp} {us vs ws : List D} {a b : Addr} (ra : Rep K H (.lst us) (.ref a)) (rb : Rep K H (.lst vs) (.ref b)) : ItOk K (ItzF K a b) H (.lst (zipD us vs)) ws := fun H' s' e m hw i => by
  cases hw
  obtain ⟨a', xs, e1, fa, qa⟩ := asL_sq (s := s') (ws := us) rfl (Rep.ext e _ _ ra) m
  obtain ⟨b', ys, e2, fb, qb⟩ := asL_sq (s := s') (ws := vs) rfl (Rep.ext e _ _ rb) m
  cases e1
  cases e2
  refine ⟨fun x hx => ?_, fun hi => ⟨xs, ys, fa, fb, ?_⟩⟩
  · unfold zipD at hx
    rw [List.getElem?_map] at hx
    obtain ⟨⟨x1, x2⟩, hp, rfl⟩ := Option.map_eq_some_iff.mp hx
    obtain ⟨h1, h2⟩ := List.getElem?_zip_eq_some.mp hp
    obtain ⟨v1, hv1, r1⟩ := qa.get h1
    obtain ⟨v2, hv2, r2⟩ := qb.get h2
    refine ⟨⟨xs, ys, v1, v2, fa, fb, hv1, hv2⟩, fun v H2 ⟨T, o, y1, y2, ev, hT, ho, eH, f1, f2⟩ => ?_⟩
    subst ev eH
    have g1 := f1 xs fa
    rw [hv1] at g1
    cases g1
    have g2 := f2 ys fb
    rw [hv2] at g2
    cases g2
    refine ⟨⟨T, [v1, v2], rfl, .new ho, v1, [v2], rfl, Rep.ext (.new hT) _ _ r1, v2, [], rfl, Rep.ext (.new hT) _ _ r2, rfl⟩, .new hT, m.new hT, fun c u hc => ?_⟩
    rw [upd_ne (fun z => by subst z; rw [hT] at hc; cases hc)]
    exact hc
  · unfold zipD at hi
    rw [List.length_map, List.length_zip] at hi
    rw [← qa.len, ← qb.len]
    omega
theorem pdi_zip {e e2 : Expr} {ta : DA} {p pos tpos : Pos} {elts : List Expr} {kk : Nat} (hg : Gl X "zip") (hm : X.mg "zip" = none) (ha : PDA X [e, e2] ta)
    (hs : starEach [e, e2] X.env = (false, eval e X.env) :: starEach [e2] X.env := by rfl) (hpl : (backTo pos (starEach [e2] X.env)).any (·.1) = false := by rfl) :
    PDI X (.Tuple elts kk tpos) (.Call (.Name "zip" p) [e, e2] [] pos) (dZip ta) :=
  ⟨fun pins s σ H R I ⟨env, sg, R', h1, h2, h3, h4⟩ => (pi_zipF hg hm ha hs hpl).run pins s σ H R I ⟨env, sg, _, h1, h2, h3, fun ws s1 vs H1 q e m r => by
    split at q
    · rename_i us ws'
      obtain ⟨v, vr, rfl, r1, r2⟩ := r
      obtain ⟨v2, vr2, rfl, r3, r4⟩ := r2
      cases (show vr2 = [] from r4)
      obtain ⟨a, xs, rfl, fa, _⟩ := asL_sq (s := s1) (ws := us) rfl r1 m
      obtain ⟨b, ys, rfl, fb, _⟩ := asL_sq (s := s1) (ws := ws') rfl r3 m
      exact ⟨a, b, xs, ys, rfl, fa, fb, h4 _ _ s1 H1 _ q e m rfl (itok_zip r1 r3)⟩
    · exact q.elim⟩⟩
/-- len(set(ints)), all of them different -/
def dLenSet (ta : DE) : DE := fun env s R => ta env s fun w s1 => ∃ ns : List Int, asL s1 w = some (ns.map D.int) ∧ ns.Nodup ∧ ns.length ≤ 4000 ∧ R (.int ns.length) s1
theorem pd_lenSet {a : Expr} {ta : DE} {p p2 q pos : Pos} (hc : X.calm = true) (hg : Gl X "len") (hm : X.mg "len" = none) (hg2 : Gl X "set") (hm2 : X.mg "set" = none) (ha : PD X a ta)
    (na : starEach [a] X.env = (false, eval a X.env) :: starEach [] X.env := by rfl) : PD X (.Call (.Name "len" p) [.Call (.Name "set" p2) [a] [] q] [] pos) (dLenSet ta) :=
  pe_imp (RZ.pe_lenSetI hg hm hg2 hm2 ha hc na) fun σ H Q ⟨env, s, R, h1, h2, h3, h4⟩ => ⟨env, s, _, h1, h2, h3, fun w s1 v H1 ⟨ns, ha', nd, hl, q⟩ e m r => by
    obtain ⟨b, vs, rfl, f, g⟩ := asL_sq ha' r m
    cases g.ints
    exact ⟨b, ns, rfl, f, nd, hl, h4 _ s1 _ H1 q e m rfl⟩⟩
end
end Dz
/-! repr of data with dicts inside; t != (); t[::-1] of tuples -/
namespace Dz
open PySem PySem.Spec PyProof.Rows L2
mutual
/-- data as a heap shows it; the dicts stand apart from the table of modules -/
inductive Rq (h : Heap) : Value → PyData → Prop
  | non : Rq h .none .none
  | bl (b : Bool) : Rq h (.bool b) (.bool b)
  | int (i : Int) (t : Tok) : Rq h (.int i t) (.int i)
  | str (x : Str) (t : Tok) : Rq h (.str x t) (.str x)
  | lst {a : Addr} {o : Obj} {vs : Array Value} {n : Nat} {ds : List PyData} (h1 : h.get? a = some o) (h2 : o.cls = .type "list") (h3 : o.data = .seq vs n) (h4 : Rqs h vs.toList ds) : Rq h (.ref a) (.list ds)
  | tup {a : Addr} {o : Obj} {vs : Array Value} {n : Nat} {ds : List PyData} (h1 : h.get? a = some o) (h2 : o.cls = .type "tuple") (h3 : o.data = .seq vs n) (h4 : Rqs h vs.toList ds) : Rq h (.ref a) (.tuple ds)
  | dic {a : Addr} {o : Obj} {es : Array DictEntry} {n : Nat} {kvs : List (PyData × PyData)} (h1 : h.get? a = some o) (h2 : o.cls = .type "dict") (h3 : o.data = .dict es n) (h0 : (a == sysModules) = false)
      (h4 : Rqs h (es.toList.map (·.key)) (kvs.map (·.1))) (h5 : Rqs h (es.toList.map (·.val)) (kvs.map (·.2))) : Rq h (.ref a) (.dict kvs)
inductive Rqs (h : Heap) : List Value → List PyData → Prop
  | nil : Rqs h [] []
  | cons {v : Value} {vs : List Value} {d : PyData} {ds : List PyData} (h1 : Rq h v d) (h2 : Rqs h vs ds) : Rqs h (v :: vs) (d :: ds)
end
mutual
theorem Rq.rd {h : Heap} : ∀ {v : Value} {d : PyData}, Rq h v d → ∃ as, Reads h v d as
  | _, _, .non => ⟨_, .none⟩
  | _, _, .bl b => ⟨_, .bool b⟩
  | _, _, .int i t => ⟨_, .int i t⟩
  | _, _, .str x t => ⟨_, .str x t⟩
  | _, _, .lst h1 h2 h3 h4 => let ⟨_, q⟩ := Rqs.rd h4; ⟨_, .list h1 h2 h3 q⟩
  | _, _, .tup h1 h2 h3 h4 => let ⟨_, q⟩ := Rqs.rd h4; ⟨_, .tuple h1 h2 h3 q⟩
  | _, _, .dic h1 h2 h3 _ h4 h5 => let ⟨_, q⟩ := Rqs.rd h4; let ⟨_, r⟩ := Rqs.rd h5; ⟨_, .dict h1 h2 h3 q r⟩
theorem Rqs.rd {h : Heap} : ∀ {vs : List Value} {ds : List PyData}, Rqs h vs ds → ∃ as, ReadsAll h vs ds as
  | _, _, .nil => ⟨_, .nil⟩
  | _, _, .cons h1 h2 => let ⟨_, q⟩ := Rq.rd h1; let ⟨_, r⟩ := Rqs.rd h2; ⟨_, .cons q r⟩
end
section
variable {prog : Program} {w : World} {h : Heap}
mutual
theorem Rq.k : ∀ {v : Value} {d : PyData}, Rq h v d → d.showable = true → d.shown.length ≤ sizeLine → ∃ bs, ReadAtMost h d.depth bs ∧ ReprK prog w bs h d.depth v d.shown
  | _, _, .non, _, _ => ⟨[], (fun _ q => nomatch q), by simp only [PyData.shown]; exact .of_is ReprIs.none _ _ _⟩
  | _, _, .bl b, _, _ => ⟨[], (fun _ q => nomatch q), by simp only [PyData.shown]; exact .of_is (ReprIs.bool b) _ _ _⟩
  | _, _, .int i t, hs, _ => ⟨[], (fun _ q => nomatch q), by simp only [PyData.shown]; exact .of_is (ReprIs.int t (by simpa [PyData.showable] using hs)) _ _ _⟩
  | _, _, .str x t, _, hz => ⟨[], (fun _ q => nomatch q), by simp only [PyData.shown]; exact .of_is (ReprIs.str x t (by simpa only [PyData.shown] using hz)) _ _ _⟩
  | _, _, .lst (a := a) (vs := vs) (ds := ds) h1 h2 h3 h4, hs, hz => by
    have z : (listText (PyData.shownAll ds)).length ≤ sizeLine := by simpa only [PyData.shown] using hz
    obtain ⟨bs, b1, b2⟩ := Rqs.k h4 (by simpa [PyData.showable] using hs) fun t ht => Nat.le_trans (listText_mem_le ht) z
    obtain ⟨as, r⟩ := Rq.rd (.lst h1 h2 h3 h4)
    have na : a ∉ bs := not_mem_of_deeper r (by simp only [PyData.depth]; omega) b1
    refine ⟨a :: bs, ReadAtMost.cons r (by simp only [PyData.depth]; omega) b1, ?_⟩
    simp only [PyData.shown, PyData.depth]
    obtain ⟨l⟩ := vs
    cases l with
    | nil =>
      have h4' : Rqs h [] ds := h4
      cases h4'
      simp only [listText_nil, PyData.shownAll]
      exact ReprK.listEmpty h1 h2 h3
    | cons x l => exact ReprK.list h1 h2 h3 na (by simpa using b2.length_eq) fun i y e => b2.item i y (by simpa using e)
  | _, _, .tup (a := a) (ds := ds) h1 h2 h3 h4, hs, hz => by
    have z : (tupleText (PyData.shownAll ds)).length ≤ sizeLine := by simpa only [PyData.shown] using hz
    obtain ⟨bs, b1, b2⟩ := Rqs.k h4 (by simpa [PyData.showable] using hs) fun t ht => Nat.le_trans (tupleText_mem_le ht) z
    obtain ⟨as, r⟩ := Rq.rd (.tup h1 h2 h3 h4)
    have na : a ∉ bs := not_mem_of_deeper r (by simp only [PyData.depth]; omega) b1
    refine ⟨a :: bs, ReadAtMost.cons r (by simp only [PyData.depth]; omega) b1, ?_⟩
    simp only [PyData.shown, PyData.depth]
    exact ReprK.tuple h1 h2 h3 na b2
  | _, _, .dic (a := a) (es := es) (kvs := kvs) h1 h2 h3 h0 h4 h5, hs, hz => by
    have z : (dictText (PyData.shownKv kvs)).length ≤ sizeLine := by simpa only [PyData.shown] using hz
    obtain ⟨s1, s2⟩ := PyData.showableKv_split kvs (by simpa [PyData.showable] using hs)
    obtain ⟨b1, c1, k1⟩ := Rqs.k h4 s1 fun t ht => let ⟨p, hp, hl⟩ := PyData.shownKv_key_le kvs t ht; Nat.le_trans hl (Nat.le_trans (dictText_mem_le hp) z)
    obtain ⟨b2, c2, k2⟩ := Rqs.k h5 s2 fun t ht => let ⟨p, hp, hl⟩ := PyData.shownKv_val_le kvs t ht; Nat.le_trans hl (Nat.le_trans (dictText_mem_le hp) z)
    obtain ⟨as, r⟩ := Rq.rd (.dic h1 h2 h3 h0 h4 h5)
    have c : ReadAtMost h (PyData.depthKv kvs) (b1 ++ b2) := (c1.mono (PyData.depthAll_keys_le kvs)).append (c2.mono (PyData.depthAll_vals_le kvs))
    have na : a ∉ b1 ++ b2 := not_mem_of_deeper r (by simp only [PyData.depth]; omega) c
    refine ⟨a :: (b1 ++ b2), ReadAtMost.cons r (by simp only [PyData.depth]; omega) c, ?_⟩
    simp only [PyData.shownKv_eq, PyData.shown, PyData.depth]
    exact ReprK.dict h1 h2 h3 h0 na (ReprEntriesK.of_two es.toList _ _ (k1.more_le (fun b q => List.mem_append_left _ q) (PyData.depthAll_keys_le kvs)) (k2.more_le (fun b q => List.mem_append_right _ q) (PyData.depthAll_vals_le kvs)))
theorem Rqs.k : ∀ {vs : List Value} {ds : List PyData}, Rqs h vs ds → PyData.showableAll ds = true → (∀ t ∈ PyData.shownAll ds, t.length ≤ sizeLine) → ∃ bs, ReadAtMost h (PyData.depthAll ds) bs ∧ ReprAllK prog w bs h (PyData.depthAll ds) vs (PyData.shownAll ds)
  | _, _, .nil, _, _ => ⟨[], (fun _ q => nomatch q), by simp only [PyData.shownAll]; exact .nil⟩
  | _, _, .cons (d := d) (ds := ds) r rs, hs, hz => by
    have hb : d.showable = true ∧ PyData.showableAll ds = true := by simpa [PyData.showableAll] using hs
    obtain ⟨b1, c1, k1⟩ := Rq.k r hb.1 (hz _ (by simp only [PyData.shownAll]; exact List.mem_cons_self ..))
    obtain ⟨b2, c2, k2⟩ := Rqs.k rs hb.2 fun t ht => hz t (by simp only [PyData.shownAll]; exact List.mem_cons_of_mem _ ht)
    refine ⟨b1 ++ b2, (c1.mono ?_).append (c2.mono ?_), ?_⟩
    · simp only [PyData.depthAll]; omega
    · simp only [PyData.depthAll]; omega
    · simp only [PyData.depthAll, PyData.shownAll]
      exact .cons ((k1.more fun b q => List.mem_append_left _ q).level_le (Nat.le_max_left _ _)) (k2.more_le (fun b q => List.mem_append_right _ q) (Nat.le_max_right _ _))
end
theorem Rq.call {a : Addr} {d : PyData} {A : Around} {E : Value → Shared → Prop} {s : Shared} {Q : Value → Shared → Prop} (r : Rq h (.ref a) d) (hs : d.showable = true) (hz : d.shown.length ≤ sizeLine) (hg : A.guards = some []) (hu : A.units + (d.depth + 1) < cLine)
    (k0 : ∀ b o, h.get? b = some o → s.heap.get? b = some o) (q : ∀ h' u tk, (∀ b o, s.heap.get? b = some o → h'.get? b = some o) → Q (.str d.shown u) { s with heap := h', toks := tk }) : wpAny (model prog w) A (PySem.call (.builtin "repr") [.ref a]) Q E s := by
  cases r with
  | lst h1 h2 h3 h4 =>
    rename_i o vs n ds
    have z : (listText (PyData.shownAll ds)).length ≤ sizeLine := by simpa only [PyData.shown] using hz
    obtain ⟨bs, b1, b2⟩ := Rqs.k (prog := prog) (w := w) h4 (by simpa [PyData.showable] using hs) fun t ht => Nat.le_trans (listText_mem_le ht) z
    obtain ⟨as, r⟩ := Rq.rd (.lst h1 h2 h3 h4)
    have na : a ∉ bs := not_mem_of_deeper r (by simp only [PyData.depth]; omega) b1
    unfold PyData.depth at hu
    simp only [PyData.shown] at q
    refine call_repr_slot (T := "list") (idr := "list.__repr__") (by omega) ⟨o, k0 _ _ h1, h2⟩ F.slot_list_repr.toG ?_
    obtain ⟨l⟩ := vs
    cases l with
    | nil =>
      have h4' : Rqs h [] ds := h4
      cases h4'
      simp only [PyData.shownAll, listText_nil] at q
      exact call_list_repr_empty ⟨o, k0 _ _ h1, h2⟩ (k0 _ _ h1) h3 ⟨_, _, rfl, q s.heap _ _ fun _ _ e => e⟩
    | cons x l => exact call_list_reprK h1 h2 h3 na (by simpa using b2.length_eq) (fun i y e => b2.item i y (by simpa using e)) hg (fun b _ => Clear.nil b) (by show A.units + 1 + _ < cLine; omega) k0 (fun h' u tk k => ⟨_, _, rfl, q h' u tk k⟩) z
  | tup h1 h2 h3 h4 =>
    rename_i o vs n ds
    have z : (tupleText (PyData.shownAll ds)).length ≤ sizeLine := by simpa only [PyData.shown] using hz
    obtain ⟨bs, b1, b2⟩ := Rqs.k (prog := prog) (w := w) h4 (by simpa [PyData.showable] using hs) fun t ht => Nat.le_trans (tupleText_mem_le ht) z
    obtain ⟨as, r⟩ := Rq.rd (.tup h1 h2 h3 h4)
    have na : a ∉ bs := not_mem_of_deeper r (by simp only [PyData.depth]; omega) b1
    unfold PyData.depth at hu
    simp only [PyData.shown] at q
    refine call_repr_slot (T := "tuple") (idr := "tuple.__repr__") (by omega) ⟨o, k0 _ _ h1, h2⟩ F.slot_tuple_repr ?_
    exact call_tuple_reprK h1 h2 h3 na b2 hg (fun b _ => Clear.nil b) (by show A.units + 1 + _ < cLine; omega) k0 (fun h' u tk k => ⟨_, _, rfl, q h' u tk k⟩) z
  | dic h1 h2 h3 h0 h4 h5 =>
    rename_i o es n kvs
    have z : (dictText (PyData.shownKv kvs)).length ≤ sizeLine := by simpa only [PyData.shown] using hz
    obtain ⟨s1, s2⟩ := PyData.showableKv_split kvs (by simpa [PyData.showable] using hs)
    obtain ⟨b1, c1, k1⟩ := Rqs.k (prog := prog) (w := w) h4 s1 fun t ht => let ⟨p, hp, hl⟩ := PyData.shownKv_key_le kvs t ht; Nat.le_trans hl (Nat.le_trans (dictText_mem_le hp) z)
    obtain ⟨b2, c2, k2⟩ := Rqs.k (prog := prog) (w := w) h5 s2 fun t ht => let ⟨p, hp, hl⟩ := PyData.shownKv_val_le kvs t ht; Nat.le_trans hl (Nat.le_trans (dictText_mem_le hp) z)
    obtain ⟨as, r⟩ := Rq.rd (.dic h1 h2 h3 h0 h4 h5)
    have c : ReadAtMost h (PyData.depthKv kvs) (b1 ++ b2) := (c1.mono (PyData.depthAll_keys_le kvs)).append (c2.mono (PyData.depthAll_vals_le kvs))
    have na : a ∉ b1 ++ b2 := not_mem_of_deeper r (by simp only [PyData.depth]; omega) c
    unfold PyData.depth at hu
    simp only [PyData.shown, PyData.shownKv_eq] at q
    refine call_repr_slot (T := "dict") (idr := "dict.__repr__") (by omega) ⟨o, k0 _ _ h1, h2⟩ F.slot_dict_repr ?_
    exact call_dict_reprK h1 h2 h3 h0 na (ReprEntriesK.of_two es.toList _ _ (k1.more_le (fun b q => List.mem_append_left _ q) (PyData.depthAll_keys_le kvs)) (k2.more_le (fun b q => List.mem_append_right _ q) (PyData.depthAll_vals_le kvs)))
      hg (fun b _ => Clear.nil b) (by show A.units + 1 + _ < cLine; omega) k0 (fun h' u tk k => ⟨_, _, rfl, q h' u tk k⟩) (by rw [← PyData.shownKv_eq]; exact z)
end
/-! ### deep values as data -/
def keyPy : Key → PyData
  | .inl i => .int i
  | .inr x => .str x
mutual
def pyX : D → Option PyData
  | .non => some .none
  | .bl b => some (.bool b)
  | .int i => some (.int i)
  | .str x => some (.str x)
  | .tup ws => (pyXs ws).map PyData.tuple
  | .lst ws => (pyXs ws).map PyData.list
  | .dic ks ws => (pyXs ws).map fun ds => .dict ((ks.map keyPy).zip ds)
  | .ref _ => none
  | .ty _ => none
  | .exc _ _ _ _ => none
def pyXs : List D → Option (List PyData)
  | [] => some []
  | w :: ws => (pyX w).bind fun d => (pyXs ws).map fun ds => d :: ds
end
theorem pyXs_len : ∀ {ws : List D} {ds : List PyData}, pyXs ws = some ds → ds.length = ws.length
  | [], ds, h => by cases h; rfl
  | w :: ws, ds, h => by
    unfold pyXs at h
    obtain ⟨d, _, h⟩ := Option.bind_eq_some_iff.mp h
    obtain ⟨es, e2, rfl⟩ := Option.map_eq_some_iff.mp h
    rw [List.length_cons, List.length_cons, pyXs_len e2]
theorem keyPy_rq {h : Heap} {P : Program} {w : World} {k : Key} {u : Value} (q : (mixKind P w).is k u = true) : Rq h u (keyPy k) := by
  rcases keyIs_shape q with ⟨i, t, rfl, rfl⟩ | ⟨x, t, rfl, rfl⟩
  · exact .int i t
  · exact .str x t
theorem rqs_dict {h : Heap} {P : Program} {w : World} : ∀ {es : List DictEntry} {kvs : List (Key × Value)}, Pairs (mixKind P w) es kvs → Rqs h (es.map (·.key)) (kvs.map fun p => keyPy p.1) ∧ es.map (·.val) = kvs.map (·.2)
  | _, _, .nil => ⟨.nil, rfl⟩
  | _, _, .cons h1 h2 h3 => by
    obtain ⟨a, b⟩ := rqs_dict (h := h) h3
    exact ⟨.cons (keyPy_rq h1) a, by rw [List.map_cons, List.map_cons, b, h2]⟩
theorem kv_zip : ∀ {ks : List Key} {vs : List V} {q : List (Key × Value)}, ks.length = vs.length → KV (ks.zip vs) q → q.map (·.1) = ks ∧ Vals vs (q.map (·.2))
  | [], [], q, _, h => by cases h; exact ⟨rfl, .nil⟩
  | k :: ks, v :: vs, q, hl, h => by
    cases h with
    | cons a b =>
      obtain ⟨c, d⟩ := kv_zip (Nat.succ.inj hl) b
      exact ⟨by rw [List.map_cons, c, ← a.1], .cons a.2 d⟩
section
variable {X : Cx} {pins : List (Addr × Obj)} {σ : L2.St} {H : Hp} {s : Shared}
mutual
theorem Rep.rq (I : Inv X pins σ H s) : ∀ (w : D) (v : V) (u : Value) (d : PyData), pyX w = some d → Rep X.K H w v → RelV v u → Rq s.heap u d
  | .non, v, u, d, h, r, q => by cases h; cases (show v = .non from r); cases q; exact .non
  | .bl b, v, u, d, h, r, q => by cases h; cases (show v = .bl b from r); cases q; exact .bl b
  | .int i, v, u, d, h, r, q => by cases h; cases (show v = .int i from r); obtain ⟨t, rfl⟩ := q; exact .int i t
  | .str x, v, u, d, h, r, q => by cases h; cases (show v = .str x from r); obtain ⟨t, rfl⟩ := q; exact .str x t
  | .tup ws, v, u, d, h, r, q => by
    obtain ⟨a, vs, rfl, f, g⟩ := r
    unfold pyX at h
    obtain ⟨ds, e, rfl⟩ := Option.map_eq_some_iff.mp h
    cases q
    obtain ⟨its, rv, ⟨o, ho, hc, n, hd⟩, _⟩ := I.tuple f.1
    exact .tup ho hc hd (by simpa using Reps.rq I ws vs its ds e g rv)
  | .lst ws, v, u, d, h, r, q => by
    obtain ⟨a, vs, rfl, f, g⟩ := r
    unfold pyX at h
    obtain ⟨ds, e, rfl⟩ := Option.map_eq_some_iff.mp h
    cases q
    obtain ⟨its, rv, ⟨o, n, ho, hc, _, hd⟩, _⟩ := I.list f.sq
    exact .lst ho hc hd (by simpa using Reps.rq I ws vs its ds e g rv)
  | .dic ks ws, v, u, d, h, r, q => by
    obtain ⟨a, vs, o, rfl, f, hl, g⟩ := r
    unfold pyX at h
    obtain ⟨ds, e, rfl⟩ := Option.map_eq_some_iff.mp h
    cases q
    obtain ⟨_, _, na, kq, kv, o', es, ep, ho, hx, hd, _, hp, _⟩ := I.hok a _ f
    obtain ⟨e1, e2⟩ := kv_zip hl kv
    obtain ⟨e3, e4⟩ := rqs_dict (h := s.heap) hp
    have lz : (ks.map keyPy).length = ds.length := by rw [List.length_map, pyXs_len e, hl]; exact g.len.symm
    refine .dic ho hx.1 hd na ?_ ?_
    · rw [List.map_fst_zip (by omega), ← e1, List.map_map]
      exact e3
    · rw [List.map_snd_zip (by omega), e4]
      exact Reps.rq I ws vs _ ds e g e2
  | .ref _, v, u, d, h, r, q => by cases h
  | .ty _, v, u, d, h, r, q => by cases h
  | .exc _ _ _ _, v, u, d, h, r, q => by cases h
theorem Reps.rq (I : Inv X pins σ H s) : ∀ (ws : List D) (vs : List V) (us : List Value) (ds : List PyData), pyXs ws = some ds → Reps X.K H ws vs → Vals vs us → Rqs s.heap us ds
  | [], vs, us, ds, h, r, q => by cases h; cases (show vs = [] from r); cases q; exact .nil
  | w :: ws, vs, us, ds, h, r, q => by
    obtain ⟨v, rr, rfl, r1, r2⟩ := r
    unfold pyXs at h
    obtain ⟨d, e1, h⟩ := Option.bind_eq_some_iff.mp h
    obtain ⟨es, e2, rfl⟩ := Option.map_eq_some_iff.mp h
    cases q with
    | cons q1 q2 => exact .cons (Rep.rq I w v _ d e1 r1 q1) (Reps.rq I ws rr _ es e2 r2 q2)
end
end
section
variable {X : Cx} {pos : Pos}
def rReprX : DL := fun ws s R => match ws with
  | [w] => (match pyX w with
    | some d => d.showable = true ∧ d.depth ≤ 60 ∧ d.shown.length ≤ 1000000 ∧ R (.str d.shown) s
    | none => False)
  | _ => False
theorem cd_reprX (hu : X.A.units + 64 < cLine) (hg : X.A.guards = some []) : CallR X (.builtin "repr") (liftL X.K rReprX) := by
  intro pins s σ H xs us Q I rr ⟨ws, sg, R, r1, m, h, p⟩
  unfold rReprX at h
  split at h
  · rename_i w
    obtain ⟨v, r, rfl, r2, r3⟩ := r1
    cases (show r = [] from r3)
    split at h
    · rename_i d hd
      obtain ⟨c2, c3, c4, c5⟩ := h
      obtain ⟨u, rfl, ru⟩ := vals1 rr
      have fin : ∀ u' tk (h' : Heap), (∀ b ob, s.heap.get? b = some ob → h'.get? b = some ob) → EP X pins σ Q (.str d.shown u') { s with heap := h', toks := tk } := fun u' tk h' hk => ⟨.str d.shown, H, I.kept hk, ⟨u', rfl⟩, p _ _ _ _ c5 (.refl _ _) m rfl⟩
      have rq := Rep.rq I w v u d hd r2 ru
      cases rq with
      | non => exact PySem.P.repr_of_none (fin _ _ _ fun _ _ e => e)
      | bl b => exact PySem.P.repr_of_bool (by have := fin s.toks (s.toks + 1) s.heap fun _ _ e => e; cases b <;> exact this)
      | int i t => exact PySem.P.repr_of_int (of_decide_eq_true c2) (fin _ _ _ fun _ _ e => e)
      | str x t => exact PySem.P.repr_of_str (fin _ _ _ fun _ _ e => e) (Nat.le_trans c4 mil)
      | lst h1 h2 h3 h4 => exact (Rq.lst h1 h2 h3 h4).call c2 (Nat.le_trans c4 mil) hg (by omega) (fun _ _ e => e) fun h' u' tk hk => fin u' tk h' hk
      | tup h1 h2 h3 h4 => exact (Rq.tup h1 h2 h3 h4).call c2 (Nat.le_trans c4 mil) hg (by omega) (fun _ _ e => e) fun h' u' tk hk => fin u' tk h' hk
      | dic h1 h2 h3 h0 h4 h5 => exact (Rq.dic h1 h2 h3 h0 h4 h5).call c2 (Nat.le_trans c4 mil) hg (by omega) (fun _ _ e => e) fun h' u' tk hk => fin u' tk h' hk
    · exact h.elim
  · exact h.elim
/-! ### t != () -/
def rNe0 : D2 := fun x y s R => match x, y with
  | .tup ws, .tup [] => R (.bl (!ws.isEmpty)) s
  | _, _ => False
theorem od_ne0 (hu : X.A.units + 64 < cLine) : OpR X (compareOp .NotEq) (lift2 X.K rNe0) := by
  intro pins s σ H x y v u Q I rx ry ⟨w, z, sg, R, r1, r2, m, h, p⟩
  unfold rNe0 at h
  split at h
  · rename_i ws
    obtain ⟨a, vs, rfl, f, g⟩ := r1
    obtain ⟨b, vz, rfl, f2, g2⟩ := r2
    cases (show vz = [] from g2)
    cases rx
    cases ry
    obtain ⟨its, rv, p1, _⟩ := I.tuple f.1
    obtain ⟨its2, rv2, p2, _⟩ := I.tuple f2.1
    cases rv2
    have fin := p _ _ (.bl (!ws.isEmpty)) _ h (.refl _ _) m rfl
    have key := SeqAt.RcNeAt.tuples (A := X.A) (s := s) (e := fun _ => true) p1 p2 (by omega) (fun j j1 j2 => absurd j2 (by simp))
    have e : (!((List.range (min its.toArray.size ([] : List Value).toArray.size)).all (fun _ => true) && its.toArray.size == ([] : List Value).toArray.size)) = !ws.isEmpty := by
      have hl := rv.length
      have hg := g.len
      cases ws with
      | nil =>
        have : its.length = 0 := by rw [← hl, ← hg]; rfl
        simp [List.eq_nil_of_length_eq_zero this]
      | cons w ws =>
        have : its.length = ws.length + 1 := by rw [← hl, ← hg]; rfl
        simp
        intro z; rw [z] at this; simp at this
    rw [e] at key
    exact key X.prog X.w X.xe (EP X pins σ Q) ⟨.bl (!ws.isEmpty), H, I, rfl, fin⟩
  · exact h.elim
/-! ### t[::-1] of a tuple -/
theorem applied_rev {prog : Program} {w : World} {A : Around} {E : Value → Shared → Prop} {s : Shared} {sl : Addr} {vl vu vs : Value} {n : Nat} {Q : Int × Int × Nat → Shared → Prop} (hs : s.heap.IsSliceOf sl vl vu vs) (pl : IsPart vl none) (pu : IsPart vu none) (ps : IsPart vs (some (-1)))
    (h : Q ((n : Int) - 1, -1, n) s) : wpAny (model prog w) A (Builtin.Slice.sliceApplied (.ref sl) (pure (n : Int))) Q E s := by
  obtain ⟨os, q1, q2, q3⟩ := id hs
  unfold Builtin.Slice.sliceApplied; unfold Builtin.Slice.sliceFields
  refine wpAny_bind (wpAny_bind (wpAny_field q1 q3 (x := vl) rfl (wpAny_bind (wpAny_field q1 q3 (x := vu) rfl (wpAny_bind (wpAny_field q1 q3 (x := vs) rfl (wpAny_pure ?_)))))))
  refine wpAny_bind (HT.slicePart_ ps ?_)
  show wpAny _ _ (if ((-1 : Int) == 0) = true then _ else _) _ _ s
  rw [if_neg (by decide : ¬ (((-1 : Int) == 0) = true))]
  refine wpAny_bind (HT.slicePart_ pl (wpAny_bind (HT.slicePart_ pu (wpAny_bind (wpAny_pure ?_)))))
  have e1 : Builtin.Slice.sliceAdjust none none (-1) (n : Int) = ((n : Int) - 1, -1) := rfl
  have e2 : Builtin.Slice.slicePlaces ((n : Int) - 1) (-1) (-1) = n := by
    unfold Builtin.Slice.slicePlaces
    simp
    omega
  show wpAny _ _ (match Builtin.Slice.sliceAdjust none none (-1) (n : Int) with | (lo, hi) => pure (lo, (-1 : Int), Builtin.Slice.slicePlaces lo hi (-1))) _ _ s
  rw [e1]
  show wpAny _ _ (pure ((n : Int) - 1, (-1 : Int), Builtin.Slice.slicePlaces ((n : Int) - 1) (-1) (-1))) _ _ s
  rw [e2]
  exact wpAny_pure h
theorem pick_rev (xs : List Value) : ((List.range xs.length).filterMap fun (m : Nat) => xs.toArray[((xs.length : Int) - 1 + (m : Int) * -1).toNat]?) = xs.reverse := by
  apply List.ext_getElem?
  intro i
  have e : ((List.range xs.length).filterMap fun (m : Nat) => xs.toArray[((xs.length : Int) - 1 + (m : Int) * -1).toNat]?) = (List.range xs.length).filterMap fun m => xs.reverse[m]? := by
    have gen : ∀ l : List Nat, (∀ m ∈ l, m < xs.length) → l.filterMap (fun (m : Nat) => xs.toArray[((xs.length : Int) - 1 + (m : Int) * -1).toNat]?) = l.filterMap fun m => xs.reverse[m]? := by
      intro l
      induction l with
      | nil => intro _; rfl
      | cons m l ih =>
        intro h
        have hm := h m List.mem_cons_self
        have e : xs.toArray[((xs.length : Int) - 1 + (m : Int) * -1).toNat]? = xs.reverse[m]? := by
          rw [List.getElem?_toArray, List.getElem?_reverse hm]
          congr 1
          omega
        rw [List.filterMap_cons, List.filterMap_cons, e, ih fun k hk => h k (List.mem_cons_of_mem _ hk)]
    exact gen _ fun m hm => List.mem_range.mp hm
  rw [e]
  have e2 : ∀ ys : List Value, (List.range ys.length).filterMap (fun m => ys[m]?) = ys := by
    intro ys
    induction ys with
    | nil => rfl
    | cons y ys ih =>
      rw [List.length_cons, List.range_succ_eq_map, List.filterMap_cons]
      simp only [List.getElem?_cons_zero, List.filterMap_map]
      congr 1
  have := e2 xs.reverse
  rw [List.length_reverse] at this
  rw [this]
theorem getItem_revT {prog : Program} {w : World} {A : Around} {E : Value → Shared → Prop} {s : Shared} {t sl : Addr} {its : List Value} {vl vu vs : Value} {Q : Value → Shared → Prop} (ht : IsTup s.heap t its.toArray) (hs : s.heap.IsSliceOf sl vl vu vs) (pl : IsPart vl none) (pu : IsPart vu none) (ps : IsPart vs (some (-1)))
    (h : Q (.ref s.heap.objs.size) { s with heap := s.heap.push { cls := .type "tuple", data := .seq its.reverse.toArray } }) (hsz : its.length ≤ sizeLine) : wpAny (model prog w) A (getItem (.ref t) (.ref sl)) Q E s := by
  have hT : s.TypeIs (.ref sl) "slice" := by obtain ⟨os, q1, q2, _⟩ := id hs; exact ⟨os, q1, q2⟩
  have ok : sizeOk (.seq its.reverse.toArray) := by show its.reverse.toArray.size ≤ sizeLine; simpa using hsz
  unfold getItem
  try with_reducible refine wpAny_holding ?_
  first | refine wpAny_bind (wpAny_pure ?_) | skip
  refine wpAny_bind (wpAny_sequenceKey ht.typeIs (by decide) ?_)
  refine wpAny_bind (wpAny_callSpecial?_slot (name := Str.ofString "__getitem__") ht.typeIs PyProof.Rows.slot_tuple_getitem (wpAny_call_entry PyProof.Rows.slot_tuple_getitem ht.typeIs entry_tuple_getitem ?_ (args_tuple_getitem _ _)))
  show wpAny _ _ (Builtin.Tuple.tupleItemsOf (.ref t) >>= _) _ _ s
  refine wpAny_bind (tupleItemsOf_ ht ?_)
  refine wpAny_bind (wpAny_typeOf hT ?_)
  rw [if_pos (by decide)]
  refine wpAny_bind (applied_rev hs pl pu ps ?_)
  show wpAny _ _ (if (((its.toArray.size : Int) - 1 == 0 && (-1 : Int) == 1 && its.toArray.size == its.toArray.size) = true) then _ else _) _ _ s
  rw [if_neg (by simp)]
  have e : ((List.range its.toArray.size).filterMap fun (m : Nat) => its.toArray[((its.toArray.size : Int) - 1 + (m : Int) * -1).toNat]?).toArray = its.reverse.toArray := by
    rw [List.size_toArray, pick_rev]
  rw [e]
  first
    | exact wpAny_bind (m := Builtin.Tuple.tupleExact _) (wpAny_newObj_type (wpAny_pure ⟨_, rfl, wpAny_pure h⟩) ok)
    | exact wpAny_bind (m := Builtin.Tuple.tupleExact _) (wpAny_newObj_type (wpAny_bind (wpAny_pure (wpAny_pure ⟨_, rfl, wpAny_pure h⟩))) ok)
    | exact wpAny_bind (wpAny_bind (m := Builtin.Tuple.tupleExact _) (wpAny_newObj_type (wpAny_pure (wpAny_pure ⟨_, rfl, wpAny_pure h⟩)) ok))
    | exact wpAny_bind (wpAny_bind (m := Builtin.Tuple.tupleExact _) (wpAny_newObj_type (wpAny_pure ⟨_, rfl, wpAny_pure h⟩) ok))
def tRevT (K : PySem.W.Frag) (te : TE) : TE := fun σ H Q => te σ H fun x H1 => ∃ a xs, x = .ref a ∧ SqT K H1 a xs ∧ ∀ (p : Addr) (o : Obj), H1 p = none → o.dict = none → Q (.ref p) (upd H1 p (.frz o (.tup xs.reverse)))
theorem pe_revT {e : Expr} {te : TE} {k : Nat} {p1 p2 p3 : Pos} (he : PE X e te) : PE X (.Subscript e (.Slice none none (some (.UnaryOp .USub (.Constant (.int 1) k p1) p2)) p3) pos) (tRevT X.K te) := by
  refine ⟨fun pins s σ H Q I h => ?_⟩
  refine Subscript_ (thn (he.run pins s σ H _ I h) fun v s1 ⟨x, H1, I1, r1, a, xs, ex, hx, q⟩ => ?_)
  subst ex
  cases r1
  have hst : PO X (some (.UnaryOp .USub (.Constant (.int 1) k p1) p2)) (tPart (tUn (rU fun i => .int (-i)) (tC (.int 1)))) := po_some (pe_un un_neg pe_int)
  refine wpAny_Slice (thn (po_none.run pins s1 σ H1 (fun o H2 => o = none ∧ H2 = H1) I1 ⟨rfl, rfl⟩) fun vl s2 ⟨l, H2, I2, pl, el, e2⟩ => ?_)
  subst el; subst e2
  refine thn (po_none.run pins s2 σ H2 (fun o H3 => o = none ∧ H3 = H2) I2 ⟨rfl, rfl⟩) fun vu s3 ⟨u, H3, I3, pu, eu, e3⟩ => ?_
  subst eu; subst e3
  refine thn (hst.run pins s3 σ H3 (fun o H4 => o = some (-1) ∧ H4 = H3) I3 ⟨1, rfl, -1, rfl, rfl, rfl⟩) fun vs s4 ⟨o, H4, I4, ps, eo, e4⟩ => ?_
  subst eo; subst e4
  have I5 : Inv X pins σ H4 { s4 with heap := s4.heap.push { cls := .type "slice", data := .fields #[vl, vu, vs] } } := I4.kept (t' := s4.toks) fun b ob q => Heap.get?_push_of_some _ q
  obtain ⟨its, r, ht, hz⟩ := I5.tuple hx
  show wpAny (model X.prog X.w) X.A (subscriptTail e (.Slice none none (some (.UnaryOp .USub (.Constant (.int 1) k p1) p2)) p3) (.ref a) (.ref s4.heap.objs.size)) (EP X pins σ Q) X.xe { s4 with heap := s4.heap.push { cls := .type "slice", data := .fields #[vl, vu, vs] } }
  refine tail_any (ops := [.ref a, .ref s4.heap.objs.size]) ht.typeIs (PyProof.Rows.slot_tuple_getitem.lookup) ?_ (by with_unfolding_all rfl)
  refine getItem_revT ht (Heap.IsSliceOf.new _ vl vu vs) pl pu ps ?_ (by rw [← r.length]; exact hz)
  refine ⟨.ref _, _, I5.laid (t' := s4.toks) (o := .frz { cls := .type "tuple", data := .seq its.reverse.toArray } (.tup xs.reverse)) (fun b ob q => Heap.get?_push_of_some _ q) (Nat.le_refl _) ?_, rfl, q _ _ (I5.hok.fresh (Nat.le_refl _)) rfl⟩
  exact ⟨Heap.get?_push_size _ rfl, by rw [List.length_reverse]; exact hz, _, r.reverse, IsTup.new _ _⟩
def dRevT (te : DE) : DE := fun env s R => te env s fun x s1 => match asT x with
  | some ws => R (.tup ws.reverse) s1
  | none => False
theorem pd_revT {e : Expr} {te : DE} {k : Nat} {p1 p2 p3 : Pos} (he : PD X e te) : PD X (.Subscript e (.Slice none none (some (.UnaryOp .USub (.Constant (.int 1) k p1) p2)) p3) pos) (dRevT te) :=
  pe_imp (pe_revT he) fun σ H Q ⟨env, s, R, h1, h2, h3, h4⟩ => by
    refine ⟨env, s, _, h1, h2, h3, fun x s1 v H1 q e1 m1 r1 => ?_⟩
    split at q
    · rename_i ws hw
      obtain ⟨a, vs, rfl, f, g⟩ := asT_sq hw r1
      exact ⟨a, vs, rfl, f, fun p o hp ho => h4 _ _ _ _ q (e1.trans (.new hp)) (m1.new hp) ⟨p, _, rfl, .new ho, Reps.ext (.new hp) _ _ g.reverse⟩⟩
    · exact q.elim
end
end Dz
/-! data with dicts: of known depth and weight -/
namespace Dz
open PySem PySem.Spec PyProof.Rows L2
def gk : Key → Prop
  | .inl i => i.natAbs < 10 ^ 60
  | .inr x => PyData.strOk x = true
def wk : Key → Nat
  | .inl _ => 0
  | .inr x => x.length
def wks : List Key → Nat
  | [] => 0
  | k :: ks => wk k + 1 + wks ks
mutual
def gx : D → Nat → Prop
  | .non, _ => True
  | .bl _, _ => True
  | .int i, _ => i.natAbs < 10 ^ 60
  | .str x, _ => PyData.strOk x = true
  | .tup ws, n => 0 < n ∧ ws.length ≤ 100000 ∧ gxs ws (n - 1)
  | .lst ws, n => 0 < n ∧ ws.length ≤ 100000 ∧ gxs ws (n - 1)
  | .dic ks ws, n => 0 < n ∧ ks.length = ws.length ∧ (∀ k ∈ ks, gk k) ∧ gxs ws (n - 1)
  | .ref _, _ => False
  | .ty _, _ => False
  | .exc _ _ _ _, _ => False
def gxs : List D → Nat → Prop
  | [], _ => True
  | w :: ws, n => gx w n ∧ gxs ws n
end
mutual
def wx : D → Nat
  | .str x => x.length
  | .tup ws => wxs ws
  | .lst ws => wxs ws
  | .dic ks ws => wks ks + wxs ws
  | _ => 0
def wxs : List D → Nat
  | [] => 0
  | w :: ws => wx w + 1 + wxs ws
end
def pxD (w : D) : PyData := (pyX w).getD .none
def pxDs (ws : List D) : List PyData := (pyXs ws).getD []
theorem strOk_short {x : Str} (h : PyData.strOk x = true) : x.cps.toList.all (fun c => decide (c < 16 ^ 8)) = true := by
  have e := PyData.leavesShort_of_canLay0 61 (.str x) h rfl
  exact e
theorem key_show {k : Key} (h : gk k) : (keyPy k).showable = true ∧ (keyPy k).depth = 0 ∧ (keyPy k).leavesShort 61 = true ∧ (keyPy k).bulk = wk k := by
  cases k with
  | inl i =>
    have g : i.natAbs < 10 ^ 60 := h
    exact ⟨decide_eq_true (log60 g), rfl, decide_eq_true (shown_int60 g), rfl⟩
  | inr x => exact ⟨rfl, rfl, strOk_short h, rfl⟩
theorem kv_show : ∀ (ks : List Key) (ds : List PyData) (n : Nat), ks.length = ds.length → (∀ k ∈ ks, gk k) → PyData.showableAll ds = true → PyData.depthAll ds ≤ n → PyData.leavesShortAll 61 ds = true →
    PyData.showableKv ((ks.map keyPy).zip ds) = true ∧ PyData.depthKv ((ks.map keyPy).zip ds) ≤ n ∧ PyData.leavesShortKv 61 ((ks.map keyPy).zip ds) = true ∧ PyData.bulkKv ((ks.map keyPy).zip ds) = wks ks + PyData.bulkAll ds
  | [], [], n, _, _, _, _, _ => ⟨rfl, Nat.zero_le _, rfl, rfl⟩
  | k :: ks, d :: ds, n, hl, hk, h1, h2, h3 => by
    obtain ⟨a1, a2, a3, a4⟩ := key_show (hk k List.mem_cons_self)
    have h1' : d.showable = true ∧ PyData.showableAll ds = true := by simpa only [PyData.showableAll, Bool.and_eq_true] using h1
    have h2' : max d.depth (PyData.depthAll ds) ≤ n := h2
    have h3' : d.leavesShort 61 = true ∧ PyData.leavesShortAll 61 ds = true := by simpa only [PyData.leavesShortAll, Bool.and_eq_true] using h3
    obtain ⟨b1, b2, b3, b4⟩ := kv_show ks ds n (Nat.succ.inj hl) (fun k q => hk k (List.mem_cons_of_mem _ q)) h1'.2 (by omega) h3'.2
    refine ⟨?_, ?_, ?_, ?_⟩
    · show ((keyPy k).showable && d.showable && PyData.showableKv ((ks.map keyPy).zip ds)) = true
      rw [a1, h1'.1, b1]; rfl
    · show max (max (keyPy k).depth d.depth) (PyData.depthKv ((ks.map keyPy).zip ds)) ≤ n
      rw [a2]; omega
    · show ((keyPy k).leavesShort 61 && d.leavesShort 61 && PyData.leavesShortKv 61 ((ks.map keyPy).zip ds)) = true
      rw [a3, h3'.1, b3]; rfl
    · show (keyPy k).bulk + d.bulk + 2 + PyData.bulkKv ((ks.map keyPy).zip ds) = wk k + 1 + wks ks + (d.bulk + 1 + PyData.bulkAll ds)
      rw [a4, b4]; omega
mutual
theorem gx_show : ∀ (w : D) (n : Nat), gx w n → pyX w = some (pxD w) ∧ (pxD w).showable = true ∧ (pxD w).depth ≤ n ∧ (pxD w).leavesShort 61 = true ∧ (pxD w).bulk = wx w
  | .non, n, h => ⟨rfl, rfl, Nat.zero_le _, rfl, rfl⟩
  | .bl _, n, h => ⟨rfl, rfl, Nat.zero_le _, rfl, rfl⟩
  | .int i, n, h => by
    have g : i.natAbs < 10 ^ 60 := h
    exact ⟨rfl, decide_eq_true (log60 g), Nat.zero_le _, decide_eq_true (shown_int60 g), rfl⟩
  | .str x, n, h => ⟨rfl, rfl, Nat.zero_le _, strOk_short h, rfl⟩
  | .tup ws, n, h => by
    have g : 0 < n ∧ ws.length ≤ 100000 ∧ gxs ws (n - 1) := h
    obtain ⟨e, a1, a2, a3, a4⟩ := gxs_show ws (n - 1) g.2.2
    have e2 : pyX (.tup ws) = some (.tuple (pxDs ws)) := by rw [pyX, e]; rfl
    have e3 : pxD (.tup ws) = .tuple (pxDs ws) := by rw [pxD, e2]; rfl
    rw [e3]
    exact ⟨e2, a1, by show PyData.depthAll (pxDs ws) + 1 ≤ n; omega, a3, a4⟩
  | .lst ws, n, h => by
    have g : 0 < n ∧ ws.length ≤ 100000 ∧ gxs ws (n - 1) := h
    obtain ⟨e, a1, a2, a3, a4⟩ := gxs_show ws (n - 1) g.2.2
    have e2 : pyX (.lst ws) = some (.list (pxDs ws)) := by rw [pyX, e]; rfl
    have e3 : pxD (.lst ws) = .list (pxDs ws) := by rw [pxD, e2]; rfl
    rw [e3]
    exact ⟨e2, a1, by show PyData.depthAll (pxDs ws) + 1 ≤ n; omega, a3, a4⟩
  | .dic ks ws, n, h => by
    have g : 0 < n ∧ ks.length = ws.length ∧ (∀ k ∈ ks, gk k) ∧ gxs ws (n - 1) := h
    obtain ⟨e, a1, a2, a3, a4⟩ := gxs_show ws (n - 1) g.2.2.2
    have e2 : pyX (.dic ks ws) = some (.dict ((ks.map keyPy).zip (pxDs ws))) := by rw [pyX, e]; rfl
    have e3 : pxD (.dic ks ws) = .dict ((ks.map keyPy).zip (pxDs ws)) := by rw [pxD, e2]; rfl
    obtain ⟨b1, b2, b3, b4⟩ := kv_show ks (pxDs ws) (n - 1) (by rw [pyXs_len e]; exact g.2.1) g.2.2.1 a1 a2 a3
    rw [e3]
    exact ⟨e2, b1, by show PyData.depthKv _ + 1 ≤ n; omega, b3, by show PyData.bulkKv _ = wks ks + wxs ws; rw [b4, a4]⟩
  | .ref _, n, h => h.elim
  | .ty _, n, h => h.elim
  | .exc _ _ _ _, n, h => h.elim
theorem gxs_show : ∀ (ws : List D) (n : Nat), gxs ws n → pyXs ws = some (pxDs ws) ∧ PyData.showableAll (pxDs ws) = true ∧ PyData.depthAll (pxDs ws) ≤ n ∧ PyData.leavesShortAll 61 (pxDs ws) = true ∧ PyData.bulkAll (pxDs ws) = wxs ws
  | [], n, h => ⟨rfl, rfl, Nat.zero_le _, rfl, rfl⟩
  | w :: ws, n, h => by
    have g : gx w n ∧ gxs ws n := h
    obtain ⟨e1, a1, a2, a3, a4⟩ := gx_show w n g.1
    obtain ⟨e2, b1, b2, b3, b4⟩ := gxs_show ws n g.2
    have e3 : pyXs (w :: ws) = some (pxD w :: pxDs ws) := by rw [pyXs, e1, e2]; rfl
    have e4 : pxDs (w :: ws) = pxD w :: pxDs ws := by rw [pxDs, e3]; rfl
    rw [e4]
    refine ⟨e3, ?_, ?_, ?_, ?_⟩
    · show (PyData.showable _ && PyData.showableAll _) = true
      rw [a1, b1]; rfl
    · show max _ _ ≤ n
      exact Nat.max_le.mpr ⟨a2, b2⟩
    · show (PyData.leavesShort _ _ && PyData.leavesShortAll _ _) = true
      rw [a3, b3]; rfl
    · show PyData.bulk _ + 1 + PyData.bulkAll _ = wx w + 1 + wxs ws
      rw [a4, b4]
end
theorem rReprX_of {w : D} {n : Nat} {s : Sg} {R : KD} (h : gx w n) (hn : n ≤ 60) (hw : wx w ≤ 15000) (q : R (.str (pxD w).shown) s) : rReprX [w] s R := by
  obtain ⟨e, a1, a2, a3, a4⟩ := gx_show w n h
  have l := PyData.shown_le_bulk 61 (by decide) (pxD w) a3
  rw [a4] at l
  unfold rReprX
  dsimp only
  rw [e]
  exact ⟨a1, by omega, by omega, q⟩
mutual
theorem gx_mono : ∀ (w : D) (n m : Nat), n ≤ m → gx w n → gx w m
  | .non, n, m, _, h => h
  | .bl _, n, m, _, h => h
  | .int _, n, m, _, h => h
  | .str x, n, m, _, h => h
  | .tup ws, n, m, l, h => by
    have g : 0 < n ∧ ws.length ≤ 100000 ∧ gxs ws (n - 1) := h
    exact ⟨by omega, g.2.1, gxs_mono ws _ _ (by omega) g.2.2⟩
  | .lst ws, n, m, l, h => by
    have g : 0 < n ∧ ws.length ≤ 100000 ∧ gxs ws (n - 1) := h
    exact ⟨by omega, g.2.1, gxs_mono ws _ _ (by omega) g.2.2⟩
  | .dic ks ws, n, m, l, h => by
    have g : 0 < n ∧ ks.length = ws.length ∧ (∀ k ∈ ks, gk k) ∧ gxs ws (n - 1) := h
    exact ⟨by omega, g.2.1, g.2.2.1, gxs_mono ws _ _ (by omega) g.2.2.2⟩
  | .ref _, n, m, _, h => h
  | .ty _, n, m, _, h => h
  | .exc _ _ _ _, n, m, _, h => h
theorem gxs_mono : ∀ (ws : List D) (n m : Nat), n ≤ m → gxs ws n → gxs ws m
  | [], n, m, _, h => h
  | w :: ws, n, m, l, h => by
    have g : gx w n ∧ gxs ws n := h
    exact ⟨gx_mono w n m l g.1, gxs_mono ws n m l g.2⟩
end
theorem gxs_of {n : Nat} : ∀ {ws : List D}, (∀ w ∈ ws, gx w n) → gxs ws n
  | [], _ => trivial
  | w :: ws, h => ⟨h w List.mem_cons_self, gxs_of fun u hu => h u (List.mem_cons_of_mem _ hu)⟩
theorem gxs_mem {n : Nat} : ∀ {ws : List D} {w : D}, gxs ws n → w ∈ ws → gx w n
  | [], w, _, h => nomatch h
  | u :: ws, w, q, h => by
    have q' : gx u n ∧ gxs ws n := q
    rcases List.mem_cons.mp h with rfl | h
    · exact q'.1
    · exact gxs_mem q'.2 h
theorem wxs_app : ∀ (a b : List D), wxs (a ++ b) = wxs a + wxs b
  | [], b => by rw [List.nil_append]; exact (Nat.zero_add _).symm
  | w :: a, b => by
    show wx w + 1 + wxs (a ++ b) = wx w + 1 + wxs a + wxs b
    rw [wxs_app a b]; omega
theorem wxs_rev : ∀ a : List D, wxs a.reverse = wxs a
  | [] => rfl
  | w :: a => by
    rw [List.reverse_cons, wxs_app, wxs_rev a]
    show wxs a + (wx w + 1 + 0) = wx w + 1 + wxs a
    omega
theorem gx_tr : ∀ {t : Tr} {n : Nat}, t.all (· < 1114112) → t.depth ≤ n → gx t.d n
  | .nil, n, _, _ => trivial
  | .node l a r, n, h, hd => by
    simp only [Tr.depth] at hd
    refine ⟨by omega, by simp, gx_tr h.1 (by omega), strOk_chr h.2.1, gx_tr h.2.2 (by omega), trivial⟩
theorem wx_tr : ∀ t : Tr, wx t.d = 4 * t.size
  | .nil => rfl
  | .node l a r => by
    show wx l.d + 1 + (1 + 1 + (wx r.d + 1 + 0)) = _
    rw [wx_tr l, wx_tr r]
    simp only [Tr.size]; omega
end Dz
namespace Pr
open PySem PySem.Spec PyProof.Rows L2 Dz Gz
def top (i : Nat) : Stmt := PySem.Challenge.pw_treewalks_k01_trees_judged.main.body.getD i (.Pass ⟨0, 0, 0, 0⟩)
def mth (i j : Nat) : Stmt := (clsBody (top i)).getD j (.Pass ⟨0, 0, 0, 0⟩)
structure Bi (mg : Str → Option Value) : Prop where
  abs : mg "abs" = none
  bool : mg "bool" = none
  int : mg "int" = none
  isinstance : mg "isinstance" = none
  len : mg "len" = none
  list : mg "list" = none
  range : mg "range" = none
  repr : mg "repr" = none
  sorted : mg "sorted" = none
  str : mg "str" = none
  sum : mg "sum" = none
  tuple : mg "tuple" = none
  c_BATCH : ∃ t, mg "BATCH" = some (.int 20 t)
  c_EDITS : ∃ t, mg "EDITS" = some (.int 60 t)
  c_LETTERS : ∃ t, mg "LETTERS" = some (.str "abcdefghijklmnopqrstuvwxyz" t)
  c_MAX_ENTRIES : ∃ t, mg "MAX_ENTRIES" = some (.int 20 t)
  c_MAX_NODES : ∃ t, mg "MAX_NODES" = some (.int 12 t)
abbrev N_is_letter : List Str := ["value"]
theorem sc_is_letter : FnScope N_is_letter ["value"] (defScope (top 6)) := ⟨rfl, rfl, rfl, by decide +kernel, rfl, by decide +kernel, by decide +kernel⟩
def t_is_letter : DS := (dRet (dAndV (dCB rIsi (dCons (dVar 0) (dCons (dC (.ty "str")) dNil))) (dAndV (dOp rEq (dCB rLenU (dCons (dVar 0) dNil)) (dC (.int 1))) (dOp rIn (dVar 0) (dC (.str "abcdefghijklmnopqrstuvwxyz"))))))
theorem b_is_letter {P : Program} {w : World} {K : PySem.W.Frag} {mg : Str → Option Value} {base : Heap} {k : Nat} {f : Addr} {cdv : Value} {A : Around} {outer : List Env} {s : Shared} {H : Hp} {E : XK} (B : Bi mg) (hr : Room k (A.deeper (envOfC "is_letter" (defScope (top 6)) s.heap.objs.size f cdv))) (hgd : (A.deeper (envOfC "is_letter" (defScope (top 6)) s.heap.objs.size f cdv)).guards = some []) : PDSs (cxOf CX0 P w K mg base N_is_letter "is_letter" (defScope (top 6)) f cdv A outer s H E).nox (defBody (top 6)) (t_is_letter) :=
  (pds_one (pd_ret (pd_and (pd_callB cd_isi rfl B.isinstance bb_isinstance (pda_cons (pd_var 0) (pda_cons (pd_ty rfl B.str bb_str) pda_nil))) (pd_and (pd_cmp (od_eq hr.units) (pd_callB cd_len rfl B.len bb_len (pda_cons (pd_var 0) pda_nil)) pd_int (nomark _)) (pd_one (pd_cmp (od_in (u65 hr)) (pd_var 0) (pd_gS rfl B.c_LETTERS) rfl))))))
abbrev N_size_or_none : List Str := ["value", "sizes"]
theorem sc_size_or_none : FnScope N_size_or_none ["value"] (defScope (top 7)) := ⟨rfl, rfl, rfl, by decide +kernel, rfl, by decide +kernel, by decide +kernel⟩
def t_size_or_none (sp_is_letter : SpD) (sp_size_or_none : SpD) : DS := (dSeq (dIf (dB (dOp rIs (dVar 0) (dC .non))) (dRet (dC (.int 0))) dNx)
    (dSeq (dIf (dOr (dNot (dB (dCB rIsi (dCons (dVar 0) (dCons (dC (.ty "tuple")) dNil))))) (dOr (dB (dOp rNe (dCB rLenU (dCons (dVar 0) dNil)) (dC (.int 3)))) (dNot (dB (dCall sp_is_letter (dCons (dOp rIxU (dVar 0) (dC (.int 1))) dNil)))))) (dRet (dC .non)) dNx)
    (dSeq (dSet 1 (dF (dSz (dCons (dCall sp_size_or_none (dCons (dOp rIxU (dVar 0) (dC (.int 0))) dNil)) (dCons (dCall sp_size_or_none (dCons (dOp rIxU (dVar 0) (dC (.int 2))) dNil)) dNil)))))
    (dRet (dIfE (dB (dOp rIn (dC .non) (dVar 1))) (dC .non) (dOp rAddU (dC (.int 1)) (dCB rSumU (dCons (dVar 1) dNil))))))))
theorem b_size_or_none {P : Program} {w : World} {K : PySem.W.Frag} {mg : Str → Option Value} {base : Heap} {k : Nat} {f : Addr} {cdv : Value} {A : Around} {outer : List Env} {s : Shared} {H : Hp} {E : XK} (B : Bi mg) (hr : Room k (A.deeper (envOfC "size_or_none" (defScope (top 7)) s.heap.objs.size f cdv))) (hgd : (A.deeper (envOfC "size_or_none" (defScope (top 7)) s.heap.objs.size f cdv)).guards = some []) {k_is_letter : Nat} {sp_is_letter : SpD} (D_is_letter : Df P w K mg base CX0 k_is_letter "is_letter" ["value"] sp_is_letter) (h_is_letter : k_is_letter ≤ k) {k_size_or_none : Nat} {sp_size_or_none : SpD} (D_size_or_none : Df P w K mg base CX0 k_size_or_none "size_or_none" ["value"] sp_size_or_none) (h_size_or_none : k_size_or_none ≤ k) : PDSs (cxOf CX0 P w K mg base N_size_or_none "size_or_none" (defScope (top 7)) f cdv A outer s H E).nox (defBody (top 7)) (t_size_or_none sp_is_letter sp_size_or_none) :=
  (pds_cons (pd_if (pdt_cmp od_is (pd_var 0) pd_non (nomark _)) (pds_one (pd_ret pd_int)) pds_nil)
    (pds_cons (pd_if (pdw_t (pdw_or (pdt_not (pdt_val (pd_callB cd_isi rfl B.isinstance bb_isinstance (pda_cons (pd_var 0) (pda_cons (pd_ty rfl B.tuple bb_tuple) pda_nil))))) (pdw_or (pdt_cmp (od_ne hr.units) (pd_callB cd_len rfl B.len bb_len (pda_cons (pd_var 0) pda_nil)) pd_int (nomark _)) (pdw_or1 (pdt_not (pdt_val (pd_call D_is_letter (hr.mono h_is_letter) hgd rfl (pda_cons (pd_ix (pd_var 0) pd_int (fun _ _ => rfl)) pda_nil)))))))) (pds_one (pd_ret pd_non)) pds_nil)
    (pds_cons (pd_set (i := 1) sc_size_or_none.nd rfl (Or.inl rfl) (pd_F (nl_lst (pda_cons (pd_call D_size_or_none (hr.mono h_size_or_none) hgd rfl (pda_cons (pd_ix (pd_var 0) pd_int (fun _ _ => rfl)) pda_nil)) (pda_cons (pd_call D_size_or_none (hr.mono h_size_or_none) hgd rfl (pda_cons (pd_ix (pd_var 0) pd_int (fun _ _ => rfl)) pda_nil)) pda_nil)))))
    (pds_one (pd_ret (pd_ifExp (pdt_cmp (od_in (u65 hr)) pd_non (pd_var 1) rfl) pd_non (pd_add pd_int (pd_callB (cd_sum rfl) rfl B.sum bb_sum (pda_cons (pd_var 1) pda_nil)))))))))
abbrev N_is_tree : List Str := ["value", "size"]
theorem sc_is_tree : FnScope N_is_tree ["value"] (defScope (top 8)) := ⟨rfl, rfl, rfl, by decide +kernel, rfl, by decide +kernel, by decide +kernel⟩
def t_is_tree (sp_size_or_none : SpD) : DS := (dSeq (dSet 1 (dCall sp_size_or_none (dCons (dVar 0) dNil)))
    (dRet (dAndV (dOp rIsNot (dVar 1) (dC .non)) (dChain rLe rLe (dC (.int 1)) (dVar 1) (dC (.int 12))))))
theorem b_is_tree {P : Program} {w : World} {K : PySem.W.Frag} {mg : Str → Option Value} {base : Heap} {k : Nat} {f : Addr} {cdv : Value} {A : Around} {outer : List Env} {s : Shared} {H : Hp} {E : XK} (B : Bi mg) (hr : Room k (A.deeper (envOfC "is_tree" (defScope (top 8)) s.heap.objs.size f cdv))) (hgd : (A.deeper (envOfC "is_tree" (defScope (top 8)) s.heap.objs.size f cdv)).guards = some []) {k_size_or_none : Nat} {sp_size_or_none : SpD} (D_size_or_none : Df P w K mg base CX0 k_size_or_none "size_or_none" ["value"] sp_size_or_none) (h_size_or_none : k_size_or_none ≤ k) : PDSs (cxOf CX0 P w K mg base N_is_tree "is_tree" (defScope (top 8)) f cdv A outer s H E).nox (defBody (top 8)) (t_is_tree sp_size_or_none) :=
  (pds_cons (pd_set (i := 1) sc_is_tree.nd rfl (Or.inl rfl) (pd_call D_size_or_none (hr.mono h_size_or_none) hgd rfl (pda_cons (pd_var 0) pda_nil)))
    (pds_one (pd_ret (pd_and (pd_cmp od_isnot (pd_var 1) pd_non (nomark _)) (pd_one (pd_chain od_le od_le pd_int (pd_var 1) (pd_gI rfl B.c_MAX_NODES)))))))
abbrev N_law_deck : List Str := ["_law_script", "_law_cells", "_law_cell"]
theorem sc_law_deck : FnScope N_law_deck ["_law_script"] (defScope (top 10)) := ⟨rfl, rfl, rfl, by decide +kernel, rfl, by decide +kernel, by decide +kernel⟩
def t_law_deck : DS := (dSeq (dSet 1 (dM (dCat (dF (dLc (dIt (dSl (dVar 0) dNoPart (dPart (dC (.int 61))))) (dgN 2) dYes (dCB rAbs (dCons (dVar 2) dNil)) [2])) (dOp rMulU (dM (dSz (dCons (dC (.int 0)) dNil))) (dCB rToInt (dCons (dOp rEq (dCB rLenU (dCons (dVar 0) dNil)) (dC (.int 0))) dNil))))))
    (dRet (dM (dSz (dCons (dVar 1) (dCons (dM (dLc (dIt (dVar 1)) (dgN 2) dYes (dOp rMulU (dVar 2) (dCB rToInt (dCons (dOp rGe (dVar 2) (dOp rPow (dC (.int 10)) (dC (.int 18)))) dNil))) [2])) (dCons (dC (.int 0)) dNil)))))))
theorem b_law_deck {P : Program} {w : World} {K : PySem.W.Frag} {mg : Str → Option Value} {base : Heap} {k : Nat} {f : Addr} {cdv : Value} {A : Around} {outer : List Env} {s : Shared} {H : Hp} {E : XK} (B : Bi mg) (hr : Room k (A.deeper (envOfC "_law_deck" (defScope (top 10)) s.heap.objs.size f cdv))) (hgd : (A.deeper (envOfC "_law_deck" (defScope (top 10)) s.heap.objs.size f cdv)).guards = some []) : PDSs (cxOf CX0 P w K mg base N_law_deck "_law_deck" (defScope (top 10)) f cdv A outer s H E).nox (defBody (top 10)) (t_law_deck) :=
  (pds_cons (pd_set (i := 1) sc_law_deck.nd rfl (Or.inl rfl) (pd_M (nl_cat (pd_F (nl_lc (own := [("_law_cell", 2)]) (gi_name 2) (wi_name (by decide)) rfl sc_law_deck.nd (pdi_it (pd_sl (pd_var 0) pdo_none (pdo_some pd_int))) (blkOk_by (own := [("_law_cell", 2)]) (N := N_law_deck) (sc := defScope (top 10)) (by decide +kernel)) (fun _ _ _ _ _ => (pg_name (i := 2) sc_law_deck.nd rfl (Or.inl rfl))) (fun _ _ _ _ _ => pdts_nil) (fun _ _ _ _ _ => (pd_callB cd_abs rfl B.abs bb_abs (pda_cons (pd_var 2) pda_nil))))) (pd_mul (pd_M (nl_lst (pda_cons pd_int pda_nil))) (pd_callTy cd_int rfl B.int bb_int (pda_cons (pd_cmp (od_eq hr.units) (pd_callB cd_len rfl B.len bb_len (pda_cons (pd_var 0) pda_nil)) pd_int (nomark _)) pda_nil))))))
    (pds_one (pd_ret (pd_M (nl_lst (pda_cons (pd_var 1) (pda_cons (pd_M (nl_lc (own := [("_law_cell", 2)]) (gi_name 2) (wi_name (by decide)) rfl sc_law_deck.nd (pdi_it (pd_var 1)) (blkOk_by (own := [("_law_cell", 2)]) (N := N_law_deck) (sc := defScope (top 10)) (by decide +kernel)) (fun _ _ _ _ _ => (pg_name (i := 2) sc_law_deck.nd rfl (Or.inl rfl))) (fun _ _ _ _ _ => pdts_nil) (fun _ _ _ _ _ => (pd_mul (pd_var 2) (pd_callTy cd_int rfl B.int bb_int (pda_cons (pd_cmp od_ge (pd_var 2) (pd_op od_pow pd_int pd_int) (nomark _)) pda_nil)))))) (pda_cons pd_int pda_nil))))))))
abbrev N_law_next : List Str := ["_law_deck_here", "_law_many", "_law_cells", "_law_rests", "_law_count_here", "_law_index", "_law_digit", "_law_mixed"]
theorem sc_law_next : FnScope N_law_next ["_law_deck_here", "_law_many"] (defScope (top 11)) := ⟨rfl, rfl, rfl, by decide +kernel, rfl, by decide +kernel, by decide +kernel⟩
def t_law_next : DS := (dSeq (dAsg (dVar 0) (dgT 3 (dgCons (dgN 2) (dgCons (dgN 3) (dgCons (dgN 4) dgNil)))))
    (dSeq (dSetIx (dOp rAddU (dVar 4) (dC (.int 1))) (dVar 0) (dC (.int 2)))
    (dSeq (dSet 5 (dOp rMod (dVar 4) (dCB rLenU (dCons (dVar 2) dNil))))
    (dSeq (dIf (dB (dOp rGt (dOp rIxU (dVar 3) (dVar 5)) (dC (.int 0)))) (dSeq (dSet 6 (dOp rMod (dOp rIxU (dVar 3) (dVar 5)) (dVar 1)))
    (dSeq (dSetIx (dOp rDiv (dOp rIxU (dVar 3) (dVar 5)) (dVar 1)) (dVar 3) (dVar 5))
    (dRet (dVar 6)))) dNx)
    (dSeq (dSet 7 (dOp rMulU (dOp rAddU (dOp rAddU (dOp rIxU (dVar 2) (dVar 5)) (dOp rMulU (dC (.int 1747)) (dVar 4))) (dC (.int 53))) (dOp rAddU (dC (.int 60013)) (dOp rMulU (dC (.int 2)) (dVar 4)))))
    (dSeq (dSet 7 (dOp rMod (dOp rAddU (dVar 7) (dOp rMulU (dC (.int 70001)) (dVar 4))) (dC (.int 2305843009213693951))))
    (dSeq (dSet 7 (dOp rMod (dOp rAddU (dOp rMulU (dVar 7) (dVar 7)) (dC (.int 50021))) (dC (.int 2305843009213693921))))
    (dSeq (dSet 7 (dOp rMod (dOp rMulU (dVar 7) (dVar 7)) (dC (.int 2305843009213693951))))
    (dRet (dOp rMod (dOp rDiv (dVar 7) (dC (.int 256))) (dVar 1)))))))))))
theorem b_law_next {P : Program} {w : World} {K : PySem.W.Frag} {mg : Str → Option Value} {base : Heap} {k : Nat} {f : Addr} {cdv : Value} {A : Around} {outer : List Env} {s : Shared} {H : Hp} {E : XK} (B : Bi mg) (hr : Room k (A.deeper (envOfC "_law_next" (defScope (top 11)) s.heap.objs.size f cdv))) (hgd : (A.deeper (envOfC "_law_next" (defScope (top 11)) s.heap.objs.size f cdv)).guards = some []) : PDSs (cxOf CX0 P w K mg base N_law_next "_law_next" (defScope (top 11)) f cdv A outer s H E).nox (defBody (top 11)) (t_law_next) :=
  (pds_cons (pd_asg (pd_var 0) (pdg_tup rfl (pdgs_cons (pdg_name (i := 2) sc_law_next.nd rfl (Or.inl rfl)) (pdgs_cons (pdg_name (i := 3) sc_law_next.nd rfl (Or.inl rfl)) (pdgs_cons (pdg_name (i := 4) sc_law_next.nd rfl (Or.inl rfl)) pdgs_nil)))))
    (pds_cons (pd_setIx (pd_add (pd_var 4) pd_int) (pd_var 0) pd_int)
    (pds_cons (pd_set (i := 5) sc_law_next.nd rfl (Or.inl rfl) (pd_op od_mod (pd_var 4) (pd_callB cd_len rfl B.len bb_len (pda_cons (pd_var 2) pda_nil))))
    (pds_cons (pd_if (pdt_cmp od_gt (pd_ix (pd_var 3) (pd_var 5) (fun _ _ => rfl)) pd_int (nomark _)) (pds_cons (pd_set (i := 6) sc_law_next.nd rfl (Or.inl rfl) (pd_op od_mod (pd_ix (pd_var 3) (pd_var 5) (fun _ _ => rfl)) (pd_var 1)))
    (pds_cons (pd_setIx (pd_op od_fdiv (pd_ix (pd_var 3) (pd_var 5) (fun _ _ => rfl)) (pd_var 1)) (pd_var 3) (pd_var 5))
    (pds_one (pd_ret (pd_var 6))))) pds_nil)
    (pds_cons (pd_set (i := 7) sc_law_next.nd rfl (Or.inl rfl) (pd_mul (pd_add (pd_add (pd_ix (pd_var 2) (pd_var 5) (fun _ _ => rfl)) (pd_mul pd_int (pd_var 4))) pd_int) (pd_add pd_int (pd_mul pd_int (pd_var 4)))))
    (pds_cons (pd_set (i := 7) sc_law_next.nd rfl (Or.inl rfl) (pd_op od_mod (pd_add (pd_var 7) (pd_mul pd_int (pd_var 4))) pd_int))
    (pds_cons (pd_set (i := 7) sc_law_next.nd rfl (Or.inl rfl) (pd_op od_mod (pd_add (pd_mul (pd_var 7) (pd_var 7)) pd_int) pd_int))
    (pds_cons (pd_set (i := 7) sc_law_next.nd rfl (Or.inl rfl) (pd_op od_mod (pd_mul (pd_var 7) (pd_var 7)) pd_int))
    (pds_one (pd_ret (pd_op od_mod (pd_op od_fdiv (pd_var 7) pd_int) (pd_var 1))))))))))))
abbrev N_law_same : List Str := ["_law_found", "_law_due", "_law_k"]
theorem sc_law_same : FnScope N_law_same ["_law_found", "_law_due"] (defScope (top 12)) := ⟨rfl, rfl, rfl, by decide +kernel, rfl, by decide +kernel, by decide +kernel⟩
def t_law_same (sp_law_same : SpD) : DS := (dSeq (dIf (dB (dCB rIsi (dCons (dVar 1) (dCons (dTup (dCons (dC (.ty "list")) (dCons (dC (.ty "tuple")) dNil))) dNil)))) (dSeq (dIf (dOr (dB (dOp rNe (dCB rIsi (dCons (dVar 0) (dCons (dC (.ty "list")) dNil))) (dCB rIsi (dCons (dVar 1) (dCons (dC (.ty "list")) dNil))))) (dB (dOp rNe (dCB rIsi (dCons (dVar 0) (dCons (dC (.ty "tuple")) dNil))) (dCB rIsi (dCons (dVar 1) (dCons (dC (.ty "tuple")) dNil)))))) (dRet (dC (.bl false))) dNx)
    (dSeq (dIf (dB (dOp rNe (dCB rLenU (dCons (dVar 0) dNil)) (dCB rLenU (dCons (dVar 1) dNil)))) (dRet (dC (.bl false))) dNx)
    (dRet (dOp rEq (dF (dLc (dRng1 (dCons (dCB rLenU (dCons (dVar 1) dNil)) dNil)) (dgN 2) (dNot (dB (dCall sp_law_same (dCons (dOp rIxU (dVar 0) (dVar 2)) (dCons (dOp rIxU (dVar 1) (dVar 2)) dNil))))) (dVar 2) [2])) (dF (dSz dNil)))))) dNx)
    (dSeq (dIf (dB (dOp rIs (dVar 1) (dC .non))) (dRet (dOp rIs (dVar 0) (dC .non))) dNx)
    (dSeq (dIf (dB (dCB rIsi (dCons (dVar 1) (dCons (dC (.ty "str")) dNil)))) (dRet (dAndV (dCB rIsi (dCons (dVar 0) (dCons (dC (.ty "str")) dNil))) (dOp rEq (dVar 0) (dVar 1)))) dNx)
    (dRet (dAndV (dCB rIsi (dCons (dVar 0) (dCons (dC (.ty "int")) dNil))) (dAndV (dOp rEq (dCB rIsi (dCons (dVar 0) (dCons (dC (.ty "bool")) dNil))) (dCB rIsi (dCons (dVar 1) (dCons (dC (.ty "bool")) dNil)))) (dOp rEq (dVar 0) (dVar 1))))))))
theorem b_law_same {P : Program} {w : World} {K : PySem.W.Frag} {mg : Str → Option Value} {base : Heap} {k : Nat} {f : Addr} {cdv : Value} {A : Around} {outer : List Env} {s : Shared} {H : Hp} {E : XK} (B : Bi mg) (hr : Room k (A.deeper (envOfC "_law_same" (defScope (top 12)) s.heap.objs.size f cdv))) (hgd : (A.deeper (envOfC "_law_same" (defScope (top 12)) s.heap.objs.size f cdv)).guards = some []) {k_law_same : Nat} {sp_law_same : SpD} (D_law_same : Df P w K mg base CX0 k_law_same "_law_same" ["_law_found", "_law_due"] sp_law_same) (h_law_same : k_law_same ≤ k) : PDSs (cxOf CX0 P w K mg base N_law_same "_law_same" (defScope (top 12)) f cdv A outer s H E).nox (defBody (top 12)) (t_law_same sp_law_same) :=
  (pds_cons (pd_if (pdt_val (pd_callB cd_isi rfl B.isinstance bb_isinstance (pda_cons (pd_var 1) (pda_cons (pd_tup (pda_cons (pd_ty rfl B.list bb_list) (pda_cons (pd_ty rfl B.tuple bb_tuple) pda_nil))) pda_nil)))) (pds_cons (pd_if (pdw_t (pdw_or (pdt_cmp (od_ne hr.units) (pd_callB cd_isi rfl B.isinstance bb_isinstance (pda_cons (pd_var 0) (pda_cons (pd_ty rfl B.list bb_list) pda_nil))) (pd_callB cd_isi rfl B.isinstance bb_isinstance (pda_cons (pd_var 1) (pda_cons (pd_ty rfl B.list bb_list) pda_nil))) (nomark _)) (pdw_or1 (pdt_cmp (od_ne hr.units) (pd_callB cd_isi rfl B.isinstance bb_isinstance (pda_cons (pd_var 0) (pda_cons (pd_ty rfl B.tuple bb_tuple) pda_nil))) (pd_callB cd_isi rfl B.isinstance bb_isinstance (pda_cons (pd_var 1) (pda_cons (pd_ty rfl B.tuple bb_tuple) pda_nil))) (nomark _))))) (pds_one (pd_ret pd_bl)) pds_nil)
    (pds_cons (pd_if (pdt_cmp (od_ne hr.units) (pd_callB cd_len rfl B.len bb_len (pda_cons (pd_var 0) pda_nil)) (pd_callB cd_len rfl B.len bb_len (pda_cons (pd_var 1) pda_nil)) (nomark _)) (pds_one (pd_ret pd_bl)) pds_nil)
    (pds_one (pd_ret (pd_cmp (od_eq hr.units) (pd_F (nl_lc (own := [("_law_k", 2)]) (gi_name 2) (wi_name (by decide)) rfl sc_law_same.nd (pdi_range1 rfl B.range (pda_cons (pd_callB cd_len rfl B.len bb_len (pda_cons (pd_var 1) pda_nil)) pda_nil)) (blkOk_by (own := [("_law_k", 2)]) (N := N_law_same) (sc := defScope (top 12)) (by decide +kernel)) (fun _ _ _ _ _ => (pg_name (i := 2) sc_law_same.nd rfl (Or.inl rfl))) (fun _ _ _ _ _ => (pdts_one (pdt_not (pdt_val (pd_call D_law_same (hr.mono h_law_same) hgd rfl (pda_cons (pd_ix (pd_var 0) (pd_var 2) (fun _ _ => rfl)) (pda_cons (pd_ix (pd_var 1) (pd_var 2) (fun _ _ => rfl)) pda_nil))))))) (fun _ _ _ _ _ => (pd_var 2)))) (pd_F (nl_lst pda_nil)) (nomark _)))))) pds_nil)
    (pds_cons (pd_if (pdt_cmp od_is (pd_var 1) pd_non (nomark _)) (pds_one (pd_ret (pd_cmp od_is (pd_var 0) pd_non (nomark _)))) pds_nil)
    (pds_cons (pd_if (pdt_val (pd_callB cd_isi rfl B.isinstance bb_isinstance (pda_cons (pd_var 1) (pda_cons (pd_ty rfl B.str bb_str) pda_nil)))) (pds_one (pd_ret (pd_and (pd_callB cd_isi rfl B.isinstance bb_isinstance (pda_cons (pd_var 0) (pda_cons (pd_ty rfl B.str bb_str) pda_nil))) (pd_one (pd_cmp (od_eq hr.units) (pd_var 0) (pd_var 1) (nomark _)))))) pds_nil)
    (pds_one (pd_ret (pd_and (pd_callB cd_isi rfl B.isinstance bb_isinstance (pda_cons (pd_var 0) (pda_cons (pd_ty rfl B.int bb_int) pda_nil))) (pd_and (pd_cmp (od_eq hr.units) (pd_callB cd_isi rfl B.isinstance bb_isinstance (pda_cons (pd_var 0) (pda_cons (pd_ty rfl B.bool bb_bool) pda_nil))) (pd_callB cd_isi rfl B.isinstance bb_isinstance (pda_cons (pd_var 1) (pda_cons (pd_ty rfl B.bool bb_bool) pda_nil))) (nomark _)) (pd_one (pd_cmp (od_eq hr.units) (pd_var 0) (pd_var 1) (nomark _))))))))))
abbrev N_law_letters : List Str := ["_law_deck_here", "_law_size", "_law_way", "_law_some", "_law_found", "_law_k"]
theorem sc_law_letters : FnScope N_law_letters ["_law_deck_here", "_law_size"] (defScope (top 13)) := ⟨rfl, rfl, rfl, by decide +kernel, rfl, by decide +kernel, by decide +kernel⟩
def t_law_letters (sp_law_next : SpD) : DS := (dSeq (dAsg (dTup (dCons (dCall sp_law_next (dCons (dVar 0) (dCons (dC (.int 4)) dNil))) (dCons (dM (dCN rListU (dCons (dC (.str "abcdefghijklmnopqrstuvwxyz")) dNil))) dNil))) (dgT 2 (dgCons (dgN 2) (dgCons (dgN 3) dgNil))))
    (dSeq (dIf (dB (dOp rEq (dVar 2) (dC (.int 2)))) (dRet (dOp rMulU (dM (dSz (dCons (dOp rIxU (dVar 3) (dCall sp_law_next (dCons (dVar 0) (dCons (dC (.int 26)) dNil)))) dNil))) (dVar 1))) dNx)
    (dSeq (dIf (dB (dOp rEq (dVar 2) (dC (.int 3)))) (dRet (dF (dLc (dRng1 (dCons (dVar 1) dNil)) (dgN 5) dYes (dOp rIxU (dVar 3) (dCall sp_law_next (dCons (dVar 0) (dCons (dC (.int 2)) dNil)))) [5]))) dNx)
    (dSeq (dSet 4 (dM (dSz dNil)))
    (dSeq (dWhile (dB (dOp rLt (dCB rLenU (dCons (dVar 4) dNil)) (dVar 1))) (dExpr (dAppend (dVar 4) (dPopAt (dVar 3) (dCall sp_law_next (dCons (dVar 0) (dCons (dCB rLenU (dCons (dVar 3) dNil)) dNil)))))))
    (dRet (dIfE (dB (dOp rEq (dVar 2) (dC (.int 0)))) (dFrz (dVar 4)) (dF (dCN rSortS (dCons (dVar 4) dNil))))))))))
theorem b_law_letters {P : Program} {w : World} {K : PySem.W.Frag} {mg : Str → Option Value} {base : Heap} {k : Nat} {f : Addr} {cdv : Value} {A : Around} {outer : List Env} {s : Shared} {H : Hp} {E : XK} (B : Bi mg) (hr : Room k (A.deeper (envOfC "_law_letters" (defScope (top 13)) s.heap.objs.size f cdv))) (hgd : (A.deeper (envOfC "_law_letters" (defScope (top 13)) s.heap.objs.size f cdv)).guards = some []) {k_law_next : Nat} {sp_law_next : SpD} (D_law_next : Df P w K mg base CX0 k_law_next "_law_next" ["_law_deck_here", "_law_many"] sp_law_next) (h_law_next : k_law_next ≤ k) : PDSs (cxOf CX0 P w K mg base N_law_letters "_law_letters" (defScope (top 13)) f cdv A outer s H E).nox (defBody (top 13)) (t_law_letters sp_law_next) :=
  (pds_cons (pd_asg (pd_tup (pda_cons (pd_call D_law_next (hr.mono h_law_next) hgd rfl (pda_cons (pd_var 0) (pda_cons pd_int pda_nil))) (pda_cons (pd_M (nl_callTy (cd_list rfl) rfl B.list bb_list (pda_cons pd_str pda_nil))) pda_nil))) (pdg_tup rfl (pdgs_cons (pdg_name (i := 2) sc_law_letters.nd rfl (Or.inl rfl)) (pdgs_cons (pdg_name (i := 3) sc_law_letters.nd rfl (Or.inr rfl)) pdgs_nil))))
    (pds_cons (pd_if (pdt_cmp (od_eq hr.units) (pd_var 2) pd_int (nomark _)) (pds_one (pd_ret (pd_mul (pd_M (nl_lst (pda_cons (pd_ix (pd_var 3) (pd_call D_law_next (hr.mono h_law_next) hgd rfl (pda_cons (pd_var 0) (pda_cons pd_int pda_nil))) (fun _ _ => rfl)) pda_nil))) (pd_var 1)))) pds_nil)
    (pds_cons (pd_if (pdt_cmp (od_eq hr.units) (pd_var 2) pd_int (nomark _)) (pds_one (pd_ret (pd_F (nl_lc (own := [("_law_k", 5)]) (gi_name 5) (wi_name (by decide)) rfl sc_law_letters.nd (pdi_range1 rfl B.range (pda_cons (pd_var 1) pda_nil)) (blkOk_by (own := [("_law_k", 5)]) (N := N_law_letters) (sc := defScope (top 13)) (by decide +kernel)) (fun _ _ _ _ _ => (pg_name (i := 5) sc_law_letters.nd rfl (Or.inl rfl))) (fun _ _ _ _ _ => pdts_nil) (fun _ _ _ _ _ => (pd_ix (pd_var 3) (pd_call D_law_next (hr.mono h_law_next) hgd rfl (pda_cons (pd_var 0) (pda_cons pd_int pda_nil))) (fun _ _ => rfl))))))) pds_nil)
    (pds_cons (pd_set (i := 4) sc_law_letters.nd rfl (Or.inl rfl) (pd_M (nl_lst pda_nil)))
    (pds_cons (pd_while PassesOwn.never (pdt_cmp od_lt (pd_callB cd_len rfl B.len bb_len (pda_cons (pd_var 4) pda_nil)) (pd_var 1) (nomark _)) (pds_one (pd_expr (pd_append (pd_var 4) (pd_popAt (pd_var 3) (pd_call D_law_next (hr.mono h_law_next) hgd rfl (pda_cons (pd_var 0) (pda_cons (pd_callB cd_len rfl B.len bb_len (pda_cons (pd_var 3) pda_nil)) pda_nil))))))))
    (pds_one (pd_ret (pd_ifExp (pdt_cmp (od_eq hr.units) (pd_var 2) pd_int (nomark _)) (pd_frz (pd_var 4)) (pd_F (nl_callB cd_sortS rfl B.sorted bb_sorted (pda_cons (pd_var 4) pda_nil)))))))))))
abbrev N_law_grown : List Str := ["_law_deck_here", "_law_size", "_law_way", "_law_letters_here", "_law_many", "_law_left"]
theorem sc_law_grown : FnScope N_law_grown ["_law_deck_here", "_law_size", "_law_way", "_law_letters_here"] (defScope (top 14)) := ⟨rfl, rfl, rfl, by decide +kernel, rfl, by decide +kernel, by decide +kernel⟩
def t_law_grown (sp_law_next : SpD) (sp_law_grown : SpD) : DS := (dSeq (dIf (dB (dOp rEq (dVar 1) (dC (.int 0)))) (dRet (dC .non)) dNx)
    (dSeq (dSet 4 (dOp rIxU (dF (dSz (dCons (dCall sp_law_next (dCons (dVar 0) (dCons (dVar 1) dNil))) (dCons (dOp rSub (dVar 1) (dC (.int 1))) (dCons (dC (.int 0)) (dCons (dOp rMulU (dOp rSub (dVar 1) (dC (.int 1))) (dOp rMod (dVar 1) (dC (.int 2)))) (dCons (dOp rDiv (dOp rSub (dVar 1) (dC (.int 1))) (dC (.int 2))) dNil))))))) (dVar 2)))
    (dSeq (dSet 5 (dCall sp_law_grown (dCons (dVar 0) (dCons (dVar 4) (dCons (dVar 2) (dCons (dSl (dVar 3) dNoPart (dPart (dVar 4))) dNil))))))
    (dRet (dTup (dCons (dVar 5) (dCons (dOp rIxU (dVar 3) (dVar 4)) (dCons (dCall sp_law_grown (dCons (dVar 0) (dCons (dOp rSub (dOp rSub (dVar 1) (dC (.int 1))) (dVar 4)) (dCons (dVar 2) (dCons (dSl (dVar 3) (dPart (dOp rAddU (dVar 4) (dC (.int 1)))) dNoPart) dNil))))) dNil))))))))
theorem b_law_grown {P : Program} {w : World} {K : PySem.W.Frag} {mg : Str → Option Value} {base : Heap} {k : Nat} {f : Addr} {cdv : Value} {A : Around} {outer : List Env} {s : Shared} {H : Hp} {E : XK} (B : Bi mg) (hr : Room k (A.deeper (envOfC "_law_grown" (defScope (top 14)) s.heap.objs.size f cdv))) (hgd : (A.deeper (envOfC "_law_grown" (defScope (top 14)) s.heap.objs.size f cdv)).guards = some []) {k_law_next : Nat} {sp_law_next : SpD} (D_law_next : Df P w K mg base CX0 k_law_next "_law_next" ["_law_deck_here", "_law_many"] sp_law_next) (h_law_next : k_law_next ≤ k) {k_law_grown : Nat} {sp_law_grown : SpD} (D_law_grown : Df P w K mg base CX0 k_law_grown "_law_grown" ["_law_deck_here", "_law_size", "_law_way", "_law_letters_here"] sp_law_grown) (h_law_grown : k_law_grown ≤ k) : PDSs (cxOf CX0 P w K mg base N_law_grown "_law_grown" (defScope (top 14)) f cdv A outer s H E).nox (defBody (top 14)) (t_law_grown sp_law_next sp_law_grown) :=
  (pds_cons (pd_if (pdt_cmp (od_eq hr.units) (pd_var 1) pd_int (nomark _)) (pds_one (pd_ret pd_non)) pds_nil)
    (pds_cons (pd_set (i := 4) sc_law_grown.nd rfl (Or.inl rfl) (pd_ix (pd_F (nl_lst (pda_cons (pd_call D_law_next (hr.mono h_law_next) hgd rfl (pda_cons (pd_var 0) (pda_cons (pd_var 1) pda_nil))) (pda_cons (pd_op od_sub (pd_var 1) pd_int) (pda_cons pd_int (pda_cons (pd_mul (pd_op od_sub (pd_var 1) pd_int) (pd_op od_mod (pd_var 1) pd_int)) (pda_cons (pd_op od_fdiv (pd_op od_sub (pd_var 1) pd_int) pd_int) pda_nil))))))) (pd_var 2) (fun _ _ => rfl)))
    (pds_cons (pd_set (i := 5) sc_law_grown.nd rfl (Or.inl rfl) (pd_call D_law_grown (hr.mono h_law_grown) hgd rfl (pda_cons (pd_var 0) (pda_cons (pd_var 4) (pda_cons (pd_var 2) (pda_cons (pd_sl (pd_var 3) pdo_none (pdo_some (pd_var 4))) pda_nil))))))
    (pds_one (pd_ret (pd_tup (pda_cons (pd_var 5) (pda_cons (pd_ix (pd_var 3) (pd_var 4) (fun _ _ => rfl)) (pda_cons (pd_call D_law_grown (hr.mono h_law_grown) hgd rfl (pda_cons (pd_var 0) (pda_cons (pd_op od_sub (pd_op od_sub (pd_var 1) pd_int) (pd_var 4)) (pda_cons (pd_var 2) (pda_cons (pd_sl (pd_var 3) (pdo_some (pd_add (pd_var 4) pd_int)) pdo_none) pda_nil))))) pda_nil)))))))))
abbrev N_law_tree : List Str := ["_law_deck_here", "_law_limit", "_law_size", "_law_way"]
theorem sc_law_tree : FnScope N_law_tree ["_law_deck_here", "_law_limit"] (defScope (top 15)) := ⟨rfl, rfl, rfl, by decide +kernel, rfl, by decide +kernel, by decide +kernel⟩
def t_law_tree (sp_law_next : SpD) (sp_law_grown : SpD) (sp_law_letters : SpD) : DS := (dSeq (dPar 2 3 (dCons (dOp rAddU (dC (.int 1)) (dCall sp_law_next (dCons (dVar 0) (dCons (dVar 1) dNil)))) (dCons (dOp rIxU (dF (dSz (dCons (dC (.int 0)) (dCons (dC (.int 0)) (dCons (dC (.int 0)) (dCons (dC (.int 1)) (dCons (dC (.int 2)) (dCons (dC (.int 3)) (dCons (dC (.int 4)) dNil))))))))) (dCall sp_law_next (dCons (dVar 0) (dCons (dC (.int 7)) dNil)))) dNil)))
    (dRet (dCall sp_law_grown (dCons (dVar 0) (dCons (dVar 2) (dCons (dVar 3) (dCons (dCall sp_law_letters (dCons (dVar 0) (dCons (dVar 2) dNil))) dNil)))))))
theorem b_law_tree {P : Program} {w : World} {K : PySem.W.Frag} {mg : Str → Option Value} {base : Heap} {k : Nat} {f : Addr} {cdv : Value} {A : Around} {outer : List Env} {s : Shared} {H : Hp} {E : XK} (B : Bi mg) (hr : Room k (A.deeper (envOfC "_law_tree" (defScope (top 15)) s.heap.objs.size f cdv))) (hgd : (A.deeper (envOfC "_law_tree" (defScope (top 15)) s.heap.objs.size f cdv)).guards = some []) {k_law_next : Nat} {sp_law_next : SpD} (D_law_next : Df P w K mg base CX0 k_law_next "_law_next" ["_law_deck_here", "_law_many"] sp_law_next) (h_law_next : k_law_next ≤ k) {k_law_grown : Nat} {sp_law_grown : SpD} (D_law_grown : Df P w K mg base CX0 k_law_grown "_law_grown" ["_law_deck_here", "_law_size", "_law_way", "_law_letters_here"] sp_law_grown) (h_law_grown : k_law_grown ≤ k) {k_law_letters : Nat} {sp_law_letters : SpD} (D_law_letters : Df P w K mg base CX0 k_law_letters "_law_letters" ["_law_deck_here", "_law_size"] sp_law_letters) (h_law_letters : k_law_letters ≤ k) : PDSs (cxOf CX0 P w K mg base N_law_tree "_law_tree" (defScope (top 15)) f cdv A outer s H E).nox (defBody (top 15)) (t_law_tree sp_law_next sp_law_grown sp_law_letters) :=
  (pds_cons (pd_par (i := 2) (j := 3) rfl sc_law_tree.nd rfl rfl (by decide) rfl rfl (pda_cons (pd_add pd_int (pd_call D_law_next (hr.mono h_law_next) hgd rfl (pda_cons (pd_var 0) (pda_cons (pd_var 1) pda_nil)))) (pda_cons (pd_ix (pd_F (nl_lst (pda_cons pd_int (pda_cons pd_int (pda_cons pd_int (pda_cons pd_int (pda_cons pd_int (pda_cons pd_int (pda_cons pd_int pda_nil))))))))) (pd_call D_law_next (hr.mono h_law_next) hgd rfl (pda_cons (pd_var 0) (pda_cons pd_int pda_nil))) (fun _ _ => rfl)) pda_nil)))
    (pds_one (pd_ret (pd_call D_law_grown (hr.mono h_law_grown) hgd rfl (pda_cons (pd_var 0) (pda_cons (pd_var 2) (pda_cons (pd_var 3) (pda_cons (pd_call D_law_letters (hr.mono h_law_letters) hgd rfl (pda_cons (pd_var 0) (pda_cons (pd_var 2) pda_nil))) pda_nil))))))))
abbrev N_law_odd : List Str := ["_law_deck_here", "_law_some"]
theorem sc_law_odd : FnScope N_law_odd ["_law_deck_here"] (defScope (top 16)) := ⟨rfl, rfl, rfl, by decide +kernel, rfl, by decide +kernel, by decide +kernel⟩
def t_law_odd (sp_law_next : SpD) : DS := (dSeq (dSet 1 (dF (dSz (dCons (dC .non) (dCons (dC (.bl true)) (dCons (dC (.bl false)) (dCons (dUn rNeg (dC (.int 1))) (dCons (dC (.int 0)) (dCons (dC (.int 1)) (dCons (dC (.int 12)) (dCons (dOp rPow (dC (.int 10)) (dC (.int 29))) (dCons (dC (.str "")) (dCons (dC (.str "a")) (dCons (dC (.str "l")) (dCons (dC (.str "A")) (dCons (dC (.str "ab")) (dCons (dC (.tup [])) (dCons (dF (dSz dNil)) (dCons (dDF dD0) (dCons (dTup (dCons (dC (.int 0)) dNil)) (dCons (dF (dSz (dCons (dC (.int 0)) dNil))) (dCons (dTup (dCons (dF (dSz (dCons (dC (.int 0)) dNil))) dNil)) (dCons (dTup (dCons (dDF dD0) dNil)) dNil)))))))))))))))))))))))
    (dRet (dOp rIxU (dOp rAddU (dVar 1) (dF (dSz (dCons (dTup (dCons (dC .non) (dCons (dC (.str "a")) (dCons (dC .non) dNil)))) (dCons (dTup (dCons (dC .non) (dCons (dC (.str "a")) dNil))) (dCons (dF (dSz (dCons (dC .non) (dCons (dC (.str "a")) (dCons (dC .non) dNil))))) (dCons (dTup (dCons (dC .non) (dCons (dC (.str "a")) (dCons (dC .non) (dCons (dC .non) dNil))))) dNil))))))) (dCall sp_law_next (dCons (dVar 0) (dCons (dC (.int 24)) dNil))))))
theorem b_law_odd {P : Program} {w : World} {K : PySem.W.Frag} {mg : Str → Option Value} {base : Heap} {k : Nat} {f : Addr} {cdv : Value} {A : Around} {outer : List Env} {s : Shared} {H : Hp} {E : XK} (B : Bi mg) (hr : Room k (A.deeper (envOfC "_law_odd" (defScope (top 16)) s.heap.objs.size f cdv))) (hgd : (A.deeper (envOfC "_law_odd" (defScope (top 16)) s.heap.objs.size f cdv)).guards = some []) {k_law_next : Nat} {sp_law_next : SpD} (D_law_next : Df P w K mg base CX0 k_law_next "_law_next" ["_law_deck_here", "_law_many"] sp_law_next) (h_law_next : k_law_next ≤ k) : PDSs (cxOf CX0 P w K mg base N_law_odd "_law_odd" (defScope (top 16)) f cdv A outer s H E).nox (defBody (top 16)) (t_law_odd sp_law_next) :=
  (pds_cons (pd_set (i := 1) sc_law_odd.nd rfl (Or.inl rfl) (pd_F (nl_lst (pda_cons pd_non (pda_cons pd_bl (pda_cons pd_bl (pda_cons (pd_neg pd_int) (pda_cons pd_int (pda_cons pd_int (pda_cons pd_int (pda_cons (pd_op od_pow pd_int pd_int) (pda_cons pd_str (pda_cons pd_str (pda_cons pd_str (pda_cons pd_str (pda_cons pd_str (pda_cons pd_tup0 (pda_cons (pd_F (nl_lst pda_nil)) (pda_cons (pd_DF nd_empty) (pda_cons (pd_tup (pda_cons pd_int pda_nil)) (pda_cons (pd_F (nl_lst (pda_cons pd_int pda_nil))) (pda_cons (pd_tup (pda_cons (pd_F (nl_lst (pda_cons pd_int pda_nil))) pda_nil)) (pda_cons (pd_tup (pda_cons (pd_DF nd_empty) pda_nil)) pda_nil)))))))))))))))))))))))
    (pds_one (pd_ret (pd_ix (pd_add (pd_var 1) (pd_F (nl_lst (pda_cons (pd_tup (pda_cons pd_non (pda_cons pd_str (pda_cons pd_non pda_nil)))) (pda_cons (pd_tup (pda_cons pd_non (pda_cons pd_str pda_nil))) (pda_cons (pd_F (nl_lst (pda_cons pd_non (pda_cons pd_str (pda_cons pd_non pda_nil))))) (pda_cons (pd_tup (pda_cons pd_non (pda_cons pd_str (pda_cons pd_non (pda_cons pd_non pda_nil))))) pda_nil))))))) (pd_call D_law_next (hr.mono h_law_next) hgd rfl (pda_cons (pd_var 0) (pda_cons pd_int pda_nil))) (fun _ _ => rfl)))))
abbrev N_law_count : List Str := ["_law_value", "_law_left", "_law_right"]
theorem sc_law_count : FnScope N_law_count ["_law_value"] (defScope (top 17)) := ⟨rfl, rfl, rfl, by decide +kernel, rfl, by decide +kernel, by decide +kernel⟩
def t_law_count (sp_law_count : SpD) : DS := (dSeq (dIf (dB (dOp rIs (dVar 0) (dC .non))) (dRet (dC (.int 0))) dNx)
    (dSeq (dIf (dOr (dNot (dB (dCB rIsi (dCons (dVar 0) (dCons (dC (.ty "tuple")) dNil))))) (dOr (dB (dOp rNe (dCB rLenU (dCons (dVar 0) dNil)) (dC (.int 3)))) (dNot (dB (dCB rIsi (dCons (dOp rIxU (dVar 0) (dC (.int 1))) (dCons (dC (.ty "str")) dNil))))))) (dRet (dUn rNeg (dC (.int 1)))) dNx)
    (dSeq (dPar 1 2 (dCons (dCall sp_law_count (dCons (dOp rIxU (dVar 0) (dC (.int 0))) dNil)) (dCons (dCall sp_law_count (dCons (dOp rIxU (dVar 0) (dC (.int 2))) dNil)) dNil)))
    (dSeq (dIf (dOr (dB (dOp rLt (dVar 1) (dC (.int 0)))) (dOr (dB (dOp rLt (dVar 2) (dC (.int 0)))) (dB (dOp rNotIn (dOp rIxU (dVar 0) (dC (.int 1))) (dF (dCN rListU (dCons (dC (.str "abcdefghijklmnopqrstuvwxyz")) dNil))))))) (dRet (dUn rNeg (dC (.int 1)))) dNx)
    (dRet (dOp rAddU (dOp rAddU (dVar 1) (dC (.int 1))) (dVar 2)))))))
theorem b_law_count {P : Program} {w : World} {K : PySem.W.Frag} {mg : Str → Option Value} {base : Heap} {k : Nat} {f : Addr} {cdv : Value} {A : Around} {outer : List Env} {s : Shared} {H : Hp} {E : XK} (B : Bi mg) (hr : Room k (A.deeper (envOfC "_law_count" (defScope (top 17)) s.heap.objs.size f cdv))) (hgd : (A.deeper (envOfC "_law_count" (defScope (top 17)) s.heap.objs.size f cdv)).guards = some []) {k_law_count : Nat} {sp_law_count : SpD} (D_law_count : Df P w K mg base CX0 k_law_count "_law_count" ["_law_value"] sp_law_count) (h_law_count : k_law_count ≤ k) : PDSs (cxOf CX0 P w K mg base N_law_count "_law_count" (defScope (top 17)) f cdv A outer s H E).nox (defBody (top 17)) (t_law_count sp_law_count) :=
  (pds_cons (pd_if (pdt_cmp od_is (pd_var 0) pd_non (nomark _)) (pds_one (pd_ret pd_int)) pds_nil)
    (pds_cons (pd_if (pdw_t (pdw_or (pdt_not (pdt_val (pd_callB cd_isi rfl B.isinstance bb_isinstance (pda_cons (pd_var 0) (pda_cons (pd_ty rfl B.tuple bb_tuple) pda_nil))))) (pdw_or (pdt_cmp (od_ne hr.units) (pd_callB cd_len rfl B.len bb_len (pda_cons (pd_var 0) pda_nil)) pd_int (nomark _)) (pdw_or1 (pdt_not (pdt_val (pd_callB cd_isi rfl B.isinstance bb_isinstance (pda_cons (pd_ix (pd_var 0) pd_int (fun _ _ => rfl)) (pda_cons (pd_ty rfl B.str bb_str) pda_nil))))))))) (pds_one (pd_ret (pd_neg pd_int))) pds_nil)
    (pds_cons (pd_par (i := 1) (j := 2) rfl sc_law_count.nd rfl rfl (by decide) rfl rfl (pda_cons (pd_call D_law_count (hr.mono h_law_count) hgd rfl (pda_cons (pd_ix (pd_var 0) pd_int (fun _ _ => rfl)) pda_nil)) (pda_cons (pd_call D_law_count (hr.mono h_law_count) hgd rfl (pda_cons (pd_ix (pd_var 0) pd_int (fun _ _ => rfl)) pda_nil)) pda_nil)))
    (pds_cons (pd_if (pdw_t (pdw_or (pdt_cmp od_lt (pd_var 1) pd_int (nomark _)) (pdw_or (pdt_cmp od_lt (pd_var 2) pd_int (nomark _)) (pdw_or1 (pdt_cmp (od_notin (u65 hr)) (pd_ix (pd_var 0) pd_int (fun _ _ => rfl)) (pd_F (nl_callTy (cd_list rfl) rfl B.list bb_list (pda_cons pd_str pda_nil))) rfl))))) (pds_one (pd_ret (pd_neg pd_int))) pds_nil)
    (pds_one (pd_ret (pd_add (pd_add (pd_var 1) pd_int) (pd_var 2))))))))
abbrev N_law_bent : List Str := ["_law_deck_here", "_law_value", "_law_k", "_law_course"]
theorem sc_law_bent : FnScope N_law_bent ["_law_deck_here", "_law_value"] (defScope (top 18)) := ⟨rfl, rfl, rfl, by decide +kernel, rfl, by decide +kernel, by decide +kernel⟩
def t_law_bent (sp_law_next : SpD) (sp_law_bent : SpD) (sp_law_odd : SpD) : DS := (dSeq (dIf (dAnd (dB (dCB rIsi (dCons (dVar 1) (dCons (dC (.ty "tuple")) dNil)))) (dAnd (dB (dOp rNe0 (dVar 1) (dC (.tup [])))) (dB (dOp rGt (dCall sp_law_next (dCons (dVar 0) (dCons (dC (.int 3)) dNil))) (dC (.int 0)))))) (dSeq (dSet 2 (dCall sp_law_next (dCons (dVar 0) (dCons (dCB rLenU (dCons (dVar 1) dNil)) dNil))))
    (dRet (dOp rAddU (dOp rAddU (dSl (dVar 1) dNoPart (dPart (dVar 2))) (dTup (dCons (dCall sp_law_bent (dCons (dVar 0) (dCons (dOp rIxU (dVar 1) (dVar 2)) dNil))) dNil))) (dSl (dVar 1) (dPart (dOp rAddU (dVar 2) (dC (.int 1)))) dNoPart)))) dNx)
    (dSeq (dSet 3 (dCall sp_law_next (dCons (dVar 0) (dCons (dC (.int 6)) dNil))))
    (dSeq (dIf (dAnd (dB (dCB rIsi (dCons (dVar 1) (dCons (dC (.ty "tuple")) dNil)))) (dB (dOp rLt (dVar 3) (dC (.int 4))))) (dRet (dOp rIxU (dF (dSz (dCons (dF (dCN rListU (dCons (dVar 1) dNil))) (dCons (dSl (dVar 1) (dPart (dC (.int 1))) dNoPart) (dCons (dOp rAddU (dVar 1) (dSl (dVar 1) dNoPart (dPart (dC (.int 1))))) (dCons (dRevT (dVar 1)) dNil)))))) (dVar 3))) dNx)
    (dRet (dCall sp_law_odd (dCons (dVar 0) dNil))))))
theorem b_law_bent {P : Program} {w : World} {K : PySem.W.Frag} {mg : Str → Option Value} {base : Heap} {k : Nat} {f : Addr} {cdv : Value} {A : Around} {outer : List Env} {s : Shared} {H : Hp} {E : XK} (B : Bi mg) (hr : Room k (A.deeper (envOfC "_law_bent" (defScope (top 18)) s.heap.objs.size f cdv))) (hgd : (A.deeper (envOfC "_law_bent" (defScope (top 18)) s.heap.objs.size f cdv)).guards = some []) {k_law_next : Nat} {sp_law_next : SpD} (D_law_next : Df P w K mg base CX0 k_law_next "_law_next" ["_law_deck_here", "_law_many"] sp_law_next) (h_law_next : k_law_next ≤ k) {k_law_bent : Nat} {sp_law_bent : SpD} (D_law_bent : Df P w K mg base CX0 k_law_bent "_law_bent" ["_law_deck_here", "_law_value"] sp_law_bent) (h_law_bent : k_law_bent ≤ k) {k_law_odd : Nat} {sp_law_odd : SpD} (D_law_odd : Df P w K mg base CX0 k_law_odd "_law_odd" ["_law_deck_here"] sp_law_odd) (h_law_odd : k_law_odd ≤ k) : PDSs (cxOf CX0 P w K mg base N_law_bent "_law_bent" (defScope (top 18)) f cdv A outer s H E).nox (defBody (top 18)) (t_law_bent sp_law_next sp_law_bent sp_law_odd) :=
  (pds_cons (pd_if (pdw_t (pdw_and (pdt_val (pd_callB cd_isi rfl B.isinstance bb_isinstance (pda_cons (pd_var 1) (pda_cons (pd_ty rfl B.tuple bb_tuple) pda_nil)))) (pdw_and (pdt_cmp (od_ne0 hr.units) (pd_var 1) pd_tup0 (nomark _)) (pdw_and1 (pdt_cmp od_gt (pd_call D_law_next (hr.mono h_law_next) hgd rfl (pda_cons (pd_var 0) (pda_cons pd_int pda_nil))) pd_int (nomark _)))))) (pds_cons (pd_set (i := 2) sc_law_bent.nd rfl (Or.inl rfl) (pd_call D_law_next (hr.mono h_law_next) hgd rfl (pda_cons (pd_var 0) (pda_cons (pd_callB cd_len rfl B.len bb_len (pda_cons (pd_var 1) pda_nil)) pda_nil))))
    (pds_one (pd_ret (pd_add (pd_add (pd_sl (pd_var 1) pdo_none (pdo_some (pd_var 2))) (pd_tup (pda_cons (pd_call D_law_bent (hr.mono h_law_bent) hgd rfl (pda_cons (pd_var 0) (pda_cons (pd_ix (pd_var 1) (pd_var 2) (fun _ _ => rfl)) pda_nil))) pda_nil))) (pd_sl (pd_var 1) (pdo_some (pd_add (pd_var 2) pd_int)) pdo_none))))) pds_nil)
    (pds_cons (pd_set (i := 3) sc_law_bent.nd rfl (Or.inl rfl) (pd_call D_law_next (hr.mono h_law_next) hgd rfl (pda_cons (pd_var 0) (pda_cons pd_int pda_nil))))
    (pds_cons (pd_if (pdw_t (pdw_and (pdt_val (pd_callB cd_isi rfl B.isinstance bb_isinstance (pda_cons (pd_var 1) (pda_cons (pd_ty rfl B.tuple bb_tuple) pda_nil)))) (pdw_and1 (pdt_cmp od_lt (pd_var 3) pd_int (nomark _))))) (pds_one (pd_ret (pd_ix (pd_F (nl_lst (pda_cons (pd_F (nl_callTy (cd_list rfl) rfl B.list bb_list (pda_cons (pd_var 1) pda_nil))) (pda_cons (pd_sl (pd_var 1) (pdo_some pd_int) pdo_none) (pda_cons (pd_add (pd_var 1) (pd_sl (pd_var 1) pdo_none (pdo_some pd_int))) (pda_cons (pd_revT (pd_var 1)) pda_nil)))))) (pd_var 3) (fun _ _ => rfl)))) pds_nil)
    (pds_one (pd_ret (pd_call D_law_odd (hr.mono h_law_odd) hgd rfl (pda_cons (pd_var 0) pda_nil)))))))
abbrev N_law : List Str := ["_law_script", "_law_deck_here", "_law_chain", "_law_other", "_law_values", "_law_k", "_law_turn", "_law_tree_here", "_law_once", "_law_value", "_law_kept", "_law_due"]
theorem sc_law : FnScope N_law ["_law_script"] (defScope (top 19)) := ⟨rfl, rfl, rfl, by decide +kernel, rfl, by decide +kernel, by decide +kernel⟩
def t_law (sp_law_deck : SpD) (sp_law_tree : SpD) (sp_law_bent : SpD) (sp_law_odd : SpD) (sp_law_count : SpD) (sp_law_same : SpD) (sp_is_tree : SpD) : DS := (dSeq (dPar3 1 2 3 (dCons (dCall sp_law_deck (dCons (dVar 0) dNil)) (dCons (dC .non) (dCons (dC .non) dNil))))
    (dSeq (dSet 4 (dF (dSz (dCons (dC .non) (dCons (dC (.tup [])) (dCons (dC (.str "a")) (dCons (dTup (dCons (dC (.str "a")) dNil)) (dCons (dTup (dCons (dC .non) (dCons (dC .non) (dCons (dC .non) dNil)))) (dCons (dTup (dCons (dC (.str "a")) (dCons (dC (.str "a")) (dCons (dC (.str "a")) dNil)))) (dCons (dTup (dCons (dC .non) (dCons (dC (.bl true)) (dCons (dC .non) dNil)))) (dCons (dTup (dCons (dC .non) (dCons (dC (.str "a")) (dCons (dC (.tup [])) dNil)))) dNil)))))))))))
    (dSeq (dFor (dRng1 (dCons (dC (.int 13)) dNil)) (dgN 5) (dSeq (dPar 2 3 (dCons (dTup (dCons (dVar 2) (dCons (dC (.str "z")) (dCons (dC .non) dNil)))) (dCons (dTup (dCons (dC .non) (dCons (dC (.str "a")) (dCons (dVar 3) dNil)))) dNil)))
    (dSet 4 (dOp rAddU (dVar 4) (dF (dSz (dCons (dVar 2) (dCons (dVar 3) dNil))))))))
    (dSeq (dFor (dRng1 (dCons (dC (.int 6)) dNil)) (dgN 6) (dSeq (dSet 7 (dCall sp_law_tree (dCons (dVar 1) (dCons (dC (.int 12)) dNil))))
    (dSeq (dSet 8 (dCall sp_law_bent (dCons (dVar 1) (dCons (dVar 7) dNil))))
    (dSeq (dSet 4 (dOp rAddU (dVar 4) (dF (dSz (dCons (dVar 7) (dCons (dVar 8) (dCons (dCall sp_law_bent (dCons (dVar 1) (dCons (dVar 8) dNil))) (dCons (dCall sp_law_bent (dCons (dVar 1) (dCons (dVar 7) dNil))) (dCons (dF (dCN rListU (dCons (dVar 7) dNil))) (dCons (dCall sp_law_odd (dCons (dVar 1) dNil)) dNil))))))))))
    (dSet 4 (dOp rAddU (dVar 4) (dF (dSz (dCons (dTup (dCons (dVar 7) (dCons (dC (.str "b")) (dCons (dVar 7) dNil)))) (dCons (dTup (dCons (dVar 7) (dCons (dC (.str "b")) (dCons (dC .non) dNil)))) (dCons (dTup (dCons (dC .non) (dCons (dC (.str "B")) (dCons (dVar 7) dNil)))) (dCons (dTup (dCons (dC .non) (dCons (dC (.str "b")) (dCons (dF (dCN rListU (dCons (dVar 7) dNil))) dNil)))) dNil))))))))))))
    (dSeq (dFor (dIt (dVar 4)) (dgN 9) (dSeq (dPar 10 11 (dCons (dCB rReprX (dCons (dVar 9) dNil)) (dCons (dChain rLt rLt (dC (.int 0)) (dCall sp_law_count (dCons (dVar 9) dNil)) (dC (.int 13))) dNil)))
    (dIf (dOr (dNot (dB (dCall sp_law_same (dCons (dF (dSz (dCons (dCall sp_is_tree (dCons (dVar 9) dNil)) (dCons (dCall sp_is_tree (dCons (dVar 9) dNil)) dNil)))) (dCons (dF (dSz (dCons (dVar 11) (dCons (dVar 11) dNil)))) dNil))))) (dB (dOp rNe (dCB rReprX (dCons (dVar 9) dNil)) (dVar 10)))) (dRet (dC (.bl false))) dNx)))
    (dRet (dCall sp_law_same (dCons (dF (dSz (dCons (dC (.int 12)) (dCons (dC (.int 20)) (dCons (dC (.int 60)) (dCons (dC (.int 20)) dNil)))))) (dCons (dF (dSz (dCons (dC (.int 12)) (dCons (dC (.int 20)) (dCons (dC (.int 60)) (dCons (dC (.int 20)) dNil)))))) dNil)))))))))
theorem b_law {P : Program} {w : World} {K : PySem.W.Frag} {mg : Str → Option Value} {base : Heap} {k : Nat} {f : Addr} {cdv : Value} {A : Around} {outer : List Env} {s : Shared} {H : Hp} {E : XK} (B : Bi mg) (hr : Room k (A.deeper (envOfC "law" (defScope (top 19)) s.heap.objs.size f cdv))) (hgd : (A.deeper (envOfC "law" (defScope (top 19)) s.heap.objs.size f cdv)).guards = some []) {k_law_deck : Nat} {sp_law_deck : SpD} (D_law_deck : Df P w K mg base CX0 k_law_deck "_law_deck" ["_law_script"] sp_law_deck) (h_law_deck : k_law_deck ≤ k) {k_law_tree : Nat} {sp_law_tree : SpD} (D_law_tree : Df P w K mg base CX0 k_law_tree "_law_tree" ["_law_deck_here", "_law_limit"] sp_law_tree) (h_law_tree : k_law_tree ≤ k) {k_law_bent : Nat} {sp_law_bent : SpD} (D_law_bent : Df P w K mg base CX0 k_law_bent "_law_bent" ["_law_deck_here", "_law_value"] sp_law_bent) (h_law_bent : k_law_bent ≤ k) {k_law_odd : Nat} {sp_law_odd : SpD} (D_law_odd : Df P w K mg base CX0 k_law_odd "_law_odd" ["_law_deck_here"] sp_law_odd) (h_law_odd : k_law_odd ≤ k) {k_law_count : Nat} {sp_law_count : SpD} (D_law_count : Df P w K mg base CX0 k_law_count "_law_count" ["_law_value"] sp_law_count) (h_law_count : k_law_count ≤ k) {k_law_same : Nat} {sp_law_same : SpD} (D_law_same : Df P w K mg base CX0 k_law_same "_law_same" ["_law_found", "_law_due"] sp_law_same) (h_law_same : k_law_same ≤ k) {k_is_tree : Nat} {sp_is_tree : SpD} (D_is_tree : Df P w K mg base CX0 k_is_tree "is_tree" ["value"] sp_is_tree) (h_is_tree : k_is_tree ≤ k) : PDSs (cxOf CX0 P w K mg base N_law "law" (defScope (top 19)) f cdv A outer s H E).nox (defBody (top 19)) (t_law sp_law_deck sp_law_tree sp_law_bent sp_law_odd sp_law_count sp_law_same sp_is_tree) :=
  (pds_cons (pd_par3 (i := 1) (j := 2) (l := 3) rfl sc_law.nd rfl rfl rfl (by decide) (by decide) (by decide) rfl rfl rfl (pda_cons (pd_call D_law_deck (hr.mono h_law_deck) hgd rfl (pda_cons (pd_var 0) pda_nil)) (pda_cons pd_non (pda_cons pd_non pda_nil))))
    (pds_cons (pd_set (i := 4) sc_law.nd rfl (Or.inl rfl) (pd_F (nl_lst (pda_cons pd_non (pda_cons pd_tup0 (pda_cons pd_str (pda_cons (pd_tup (pda_cons pd_str pda_nil)) (pda_cons (pd_tup (pda_cons pd_non (pda_cons pd_non (pda_cons pd_non pda_nil)))) (pda_cons (pd_tup (pda_cons pd_str (pda_cons pd_str (pda_cons pd_str pda_nil)))) (pda_cons (pd_tup (pda_cons pd_non (pda_cons pd_bl (pda_cons pd_non pda_nil)))) (pda_cons (pd_tup (pda_cons pd_non (pda_cons pd_str (pda_cons pd_tup0 pda_nil)))) pda_nil)))))))))))
    (pds_cons (pd_for PassesOwn.never rfl (pdi_range1 rfl B.range (pda_cons pd_int pda_nil)) (pdg_name (i := 5) sc_law.nd rfl (Or.inl rfl)) (pds_cons (pd_par (i := 2) (j := 3) rfl sc_law.nd rfl rfl (by decide) rfl rfl (pda_cons (pd_tup (pda_cons (pd_var 2) (pda_cons pd_str (pda_cons pd_non pda_nil)))) (pda_cons (pd_tup (pda_cons pd_non (pda_cons pd_str (pda_cons (pd_var 3) pda_nil)))) pda_nil)))
    (pds_one (pd_set (i := 4) sc_law.nd rfl (Or.inl rfl) (pd_add (pd_var 4) (pd_F (nl_lst (pda_cons (pd_var 2) (pda_cons (pd_var 3) pda_nil)))))))))
    (pds_cons (pd_for PassesOwn.never rfl (pdi_range1 rfl B.range (pda_cons pd_int pda_nil)) (pdg_name (i := 6) sc_law.nd rfl (Or.inl rfl)) (pds_cons (pd_set (i := 7) sc_law.nd rfl (Or.inl rfl) (pd_call D_law_tree (hr.mono h_law_tree) hgd rfl (pda_cons (pd_var 1) (pda_cons pd_int pda_nil))))
    (pds_cons (pd_set (i := 8) sc_law.nd rfl (Or.inl rfl) (pd_call D_law_bent (hr.mono h_law_bent) hgd rfl (pda_cons (pd_var 1) (pda_cons (pd_var 7) pda_nil))))
    (pds_cons (pd_set (i := 4) sc_law.nd rfl (Or.inl rfl) (pd_add (pd_var 4) (pd_F (nl_lst (pda_cons (pd_var 7) (pda_cons (pd_var 8) (pda_cons (pd_call D_law_bent (hr.mono h_law_bent) hgd rfl (pda_cons (pd_var 1) (pda_cons (pd_var 8) pda_nil))) (pda_cons (pd_call D_law_bent (hr.mono h_law_bent) hgd rfl (pda_cons (pd_var 1) (pda_cons (pd_var 7) pda_nil))) (pda_cons (pd_F (nl_callTy (cd_list rfl) rfl B.list bb_list (pda_cons (pd_var 7) pda_nil))) (pda_cons (pd_call D_law_odd (hr.mono h_law_odd) hgd rfl (pda_cons (pd_var 1) pda_nil)) pda_nil))))))))))
    (pds_one (pd_set (i := 4) sc_law.nd rfl (Or.inl rfl) (pd_add (pd_var 4) (pd_F (nl_lst (pda_cons (pd_tup (pda_cons (pd_var 7) (pda_cons pd_str (pda_cons (pd_var 7) pda_nil)))) (pda_cons (pd_tup (pda_cons (pd_var 7) (pda_cons pd_str (pda_cons pd_non pda_nil)))) (pda_cons (pd_tup (pda_cons pd_non (pda_cons pd_str (pda_cons (pd_var 7) pda_nil)))) (pda_cons (pd_tup (pda_cons pd_non (pda_cons pd_str (pda_cons (pd_F (nl_callTy (cd_list rfl) rfl B.list bb_list (pda_cons (pd_var 7) pda_nil))) pda_nil)))) pda_nil)))))))))))))
    (pds_cons (pd_for PassesOwn.never rfl (pdi_it (pd_var 4)) (pdg_name (i := 9) sc_law.nd rfl (Or.inl rfl)) (pds_cons (pd_par (i := 10) (j := 11) rfl sc_law.nd rfl rfl (by decide) rfl rfl (pda_cons (pd_callB (cd_reprX (by exact hr.units) (by exact hgd)) rfl B.repr bb_repr (pda_cons (pd_var 9) pda_nil)) (pda_cons (pd_chain od_lt od_lt pd_int (pd_call D_law_count (hr.mono h_law_count) hgd rfl (pda_cons (pd_var 9) pda_nil)) pd_int) pda_nil)))
    (pds_one (pd_if (pdw_t (pdw_or (pdt_not (pdt_val (pd_call D_law_same (hr.mono h_law_same) hgd rfl (pda_cons (pd_F (nl_lst (pda_cons (pd_call D_is_tree (hr.mono h_is_tree) hgd rfl (pda_cons (pd_var 9) pda_nil)) (pda_cons (pd_call D_is_tree (hr.mono h_is_tree) hgd rfl (pda_cons (pd_var 9) pda_nil)) pda_nil)))) (pda_cons (pd_F (nl_lst (pda_cons (pd_var 11) (pda_cons (pd_var 11) pda_nil)))) pda_nil))))) (pdw_or1 (pdt_cmp (od_ne hr.units) (pd_callB (cd_reprX (by exact hr.units) (by exact hgd)) rfl B.repr bb_repr (pda_cons (pd_var 9) pda_nil)) (pd_var 10) (nomark _))))) (pds_one (pd_ret pd_bl)) pds_nil))))
    (pds_one (pd_ret (pd_call D_law_same (hr.mono h_law_same) hgd rfl (pda_cons (pd_F (nl_lst (pda_cons (pd_gI rfl B.c_MAX_NODES) (pda_cons (pd_gI rfl B.c_MAX_ENTRIES) (pda_cons (pd_gI rfl B.c_EDITS) (pda_cons (pd_gI rfl B.c_BATCH) pda_nil)))))) (pda_cons (pd_F (nl_lst (pda_cons pd_int (pda_cons pd_int (pda_cons pd_int (pda_cons pd_int pda_nil)))))) pda_nil))))))))))
end Pr

namespace Pr
open PySem PySem.Spec PyProof.Rows L2 Dz
theorem e_law_next : ∀ ws s R, spNext ws s R X0 → ws.length = 2 ∧ ∀ K H, MRep K H s → ∃ s1, MRep K H s1 ∧ Stp H s H s1 ∧ t_law_next { nx := fun _ s' => Lw R .non s', rt := Lw R } (Dz.startD N_law_next ws) s1 := by
  rintro ws s R ⟨p, m, rfl, hb, h0, h1, hn, hR⟩
  refine ⟨rfl, fun K H mr => ?_⟩
  obtain ⟨st, ⟨k, hk, hI⟩, nd, np, hv, ra, mr1, st1⟩ := box_open mr hb
  obtain ⟨cells, rests, c, rfl, hl, hl0, hl1, hc0, hc1⟩ := hI
  have one := mr.one
  obtain ⟨M, n, pv⟩ := s
  simp only at hb hk hv nd np ra mr1 st1 hn hR one
  match pv, ra with
  | [a, b], ra =>
    simp only [List.nodup_cons, List.mem_cons, List.not_mem_nil, or_false, not_or] at nd np
    refine ⟨_, mr1, st1, ?_⟩
    have e1 : a ≠ b := nd.1
    have np1 : p ≠ a := np.1
    have np2 : p ≠ b := np.2
    obtain ⟨x, hx, hx1, hx2, hx3⟩ := atI_mod (c := c) hl0
    obtain ⟨y, hy, hy1, hy2, hy3⟩ := atI_mod (xs := rests) (c := c) (by omega)
    rw [hl] at hx hx1 hx3
    have i2 : ixN 3 2 = some 2 := rfl
    simp only [Dz.dSeq, Dz.dIf, Dz.dB, Dz.dOp, Dz.dUn, Dz.dVar, Dz.dC, Dz.dRet, Dz.dRetN, Dz.dNx, Dz.dBrk, Dz.dCnt, Dz.dAsg, Dz.dSet, Dz.dPar, Dz.dPar3, Dz.dgT, Dz.dgTt, Dz.dgCons, Dz.dgNil, Dz.dgN, Dz.dCall, Dz.dCons, Dz.dNil, Dz.dTup, Dz.dCB, Dz.dCN, Dz.dF, Dz.dM, Dz.dSz, Dz.dExpr, Dz.dNot, Dz.dAnd, Dz.dOr, Dz.dAndV, Dz.dOrV, Dz.dNotV, Dz.dIfE, Dz.dChain, Dz.dFrz, Dz.dIt, Dz.dRng1, Dz.dRng2, Dz.dSl, Dz.dNoPart, Dz.dPart, Dz.dCat, Dz.dRep, Dz.dLc, Dz.dFor, Dz.dAppend, Dz.dPop, Dz.dPopAt, Dz.rPopAtD, Dz.dSetIx, Dz.dYes, Dz.dRev, Dz.asI, Dz.asQ, Dz.asL, Dz.rIsN, Dz.rIs, Dz.rIsNot, Dz.isNon_d, Dz.isNon_non, Dz.isNon_tup, Dz.isNon_lst, Dz.isNon_str, Dz.isNon_int, Dz.isNon_bl, Dz.isNon_ref, Dz.isNon_dic, Dz.isNon_ty, Dz.rAddU, Dz.rSub, Dz.rMod, Dz.rDiv, Dz.rPow, Dz.rLt, Dz.rLe, Dz.rGt, Dz.rGe, Dz.rEq, Dz.rNe, Dz.rEqv, Dz.rInt2, Dz.rMax2, Dz.rMin2, Dz.rI, Dz.rCmp, Dz.rIxU, Dz.rAbs, Dz.rToInt, Dz.rListU, Dz.rSlU, Dz.trk, Dz.rLenU, Dz.rMulU, Dz.rNeg, Dz.startD, Dz.wipeD, Dz.Tr.d, Dz.Sg.put_M, Dz.Sg.put_n, Dz.Sg.put_pv, Dz.Sg.del_M, Dz.Sg.del_n, Dz.Sg.del_pv, Dz.Mm.put_same, Dz.Mm.put_put, Dz.Sg.put_put, Dz.Mm.put_ne, Dz.Mm.del_ne, Dz.rIsi, Dz.tyN, Dz.tyNames, Dz.isiT, Dz.subT, Dz.tyOk, Dz.tyNames, Dz.pyOf, Dz.toPy, Dz.toPys, Dz.Sg.put_mk, Dz.Sg.del_mk, Dz.spend_M, Dz.spend_pv, Dz.spend_n, Dz.spend_spend, Dz.spend_put, Dz.spend_del, Dz.spNext_iff, Dz.asI_lst, Dz.asI_tup, Dz.dFJ, Dz.dJs, Dz.dFmt, Dz.Tr.isNil, Gz.gPlain, Gz.gSeq, Gz.gNx, Gz.gIf, Gz.gYield, Gz.gOut, Gz.gForG, Gz.dGCall, Gz.dListG, Gz.dForG, Gz.GE.at, Dz.dDGet, Dz.rDGet, Dz.dDGet2, Dz.dDIn, Dz.dDSet, Dz.rDSet, Dz.dDF, Dz.dDM, Dz.dD0, Dz.dDc, Dz.rTupU, Dz.dStar, Dz.keyD, Dz.asD, Dz.dExtend, Dz.rExtendD, Dz.dFld, Dz.dSetFld, Dz.dMeth, Dz.dMake, Dz.dDictP, Dz.dDd, Dz.dPairs, Dz.dTab, Dz.dAugS, Dz.dNever, Dz.dIndex, Dz.dIndexT, List.map_cons, List.map_nil, List.length_cons, List.length_nil, List.length_map, List.length_set, List.replicate, Nat.reduceSub, Nat.reduceAdd, List.cons_append, List.nil_append, List.getElem?_cons_zero, List.getElem?_cons_succ, List.set_cons_zero, List.set_cons_succ, if_true, if_false, Bool.false_eq_true, id, Nat.sub_zero, Bool.not_true, Bool.not_false, true_and, and_true, ne_eq, not_false_eq_true, not_true_eq_false, reduceCtorEq, Option.map_some, Option.bind_some, String.reduceBEq, Bool.or_false, Bool.or_true, Bool.false_or, Bool.true_or, Bool.and_true, Bool.and_false, Bool.true_and, Bool.false_and, decide_true, decide_false, List.all_cons, List.all_nil, List.any_cons, List.any_nil, beq_self_eq_true, t_law_next, rawM, rawV, np1, np2, e1, Ne.symm np1, Ne.symm np2, e1.symm, hx, hy, hy3, i2, hl, Sg.put_mk, map_set_int]
    refine ⟨by omega, ?_⟩
    have hc2 : c < 1000000000001 := by omega
    have hmn : ∀ z : Int, 0 ≤ z % m ∧ z % m < m := fun z => ⟨Int.emod_nonneg _ (by omega), Int.emod_lt_of_pos _ h0⟩
    split
    · refine ⟨h0, ⟨h0, by omega⟩, ?_⟩
      refine next_fin (cells := cells) (rests := rests) (rs := rests.set (c % (rests.length : Int)).toNat (y / m)) (c := c) (m := m) hb hn hk hl hl0 hl1 hc0 hc1 e1 np1 np2 hv one (by simp) ?_ ?_ ?_ (fun q q1 q2 q3 => ?_) hR (hmn y).1 (hmn y).2
      · simp [Mm.put, np2, e1, np1]
      · simp [Mm.put, np1.symm, e1]
      · simp [Mm.put]
      · simp [Mm.put, q1, q2, q3]
    · refine ⟨cmul_l (by omega) (by omega), cmul_l (by omega) (by omega), cmul_r (by omega) (by omega), cmul_l (by omega) (by omega), by omega, cmul_mod (by omega) (by omega), by omega, cmul_mod (by omega) (by omega), by omega, ⟨by omega, by omega⟩, h0, ?_⟩
      refine next_fin (cells := cells) (rests := rests) (rs := rests) (c := c) (m := m) hb hn hk hl hl0 hl1 hc0 hc1 e1 np1 np2 hv one rfl ?_ ?_ ?_ (fun q q1 q2 q3 => ?_) hR (hmn _).1 (hmn _).2
      · simp [Mm.put]
      · simp [Mm.put, np1.symm]
      · simp [Mm.put, np2.symm, e1.symm]
      · simp [Mm.put, q1, q2, q3]
end Pr

namespace Pr
open PySem PySem.Spec PyProof.Rows L2 Dz
def s0 : Sg := ⟨fun _ => none, 1000000000000, []⟩
def spDeck : SpD := fun ws s R _ => s = s0 ∧ ∃ ns : List Int, ws = [.lst (ns.map D.int)] ∧ ∀ (p : Addr) (s' : Sg), Dk s' p → s'.n = 1000000000000 → R (.ref p) s'
theorem e_law_deck : ∀ ws s R, spDeck ws s R X0 → ws.length = 1 ∧ t_law_deck { nx := fun _ s' => Lw R .non s', rt := Lw R } (Dz.startD N_law_deck ws) s := by
  rintro ws s R ⟨rfl, ns, rfl, hR⟩
  refine ⟨rfl, ?_⟩
  simp only [Dz.dSeq, Dz.dIf, Dz.dB, Dz.dOp, Dz.dUn, Dz.dVar, Dz.dC, Dz.dRet, Dz.dRetN, Dz.dNx, Dz.dBrk, Dz.dCnt, Dz.dAsg, Dz.dSet, Dz.dPar, Dz.dPar3, Dz.dgT, Dz.dgTt, Dz.dgCons, Dz.dgNil, Dz.dgN, Dz.dCall, Dz.dCons, Dz.dNil, Dz.dTup, Dz.dCB, Dz.dCN, Dz.dF, Dz.dM, Dz.dSz, Dz.dExpr, Dz.dNot, Dz.dAnd, Dz.dOr, Dz.dAndV, Dz.dOrV, Dz.dNotV, Dz.dIfE, Dz.dChain, Dz.dFrz, Dz.dIt, Dz.dRng1, Dz.dRng2, Dz.dSl, Dz.dNoPart, Dz.dPart, Dz.dCat, Dz.dRep, Dz.dLc, Dz.dFor, Dz.dAppend, Dz.dPop, Dz.dPopAt, Dz.rPopAtD, Dz.dSetIx, Dz.dYes, Dz.dRev, Dz.asI, Dz.asQ, Dz.asL, Dz.rIsN, Dz.rIs, Dz.rIsNot, Dz.isNon_d, Dz.isNon_non, Dz.isNon_tup, Dz.isNon_lst, Dz.isNon_str, Dz.isNon_int, Dz.isNon_bl, Dz.isNon_ref, Dz.isNon_dic, Dz.isNon_ty, Dz.rAddU, Dz.rSub, Dz.rMod, Dz.rDiv, Dz.rPow, Dz.rLt, Dz.rLe, Dz.rGt, Dz.rGe, Dz.rEq, Dz.rNe, Dz.rEqv, Dz.rInt2, Dz.rMax2, Dz.rMin2, Dz.rI, Dz.rCmp, Dz.rIxU, Dz.rAbs, Dz.rToInt, Dz.rListU, Dz.rSlU, Dz.trk, Dz.rLenU, Dz.rMulU, Dz.rNeg, Dz.startD, Dz.wipeD, Dz.Tr.d, Dz.Sg.put_M, Dz.Sg.put_n, Dz.Sg.put_pv, Dz.Sg.del_M, Dz.Sg.del_n, Dz.Sg.del_pv, Dz.Mm.put_same, Dz.Mm.put_put, Dz.Sg.put_put, Dz.Mm.put_ne, Dz.Mm.del_ne, Dz.rIsi, Dz.tyN, Dz.tyNames, Dz.isiT, Dz.subT, Dz.tyOk, Dz.tyNames, Dz.pyOf, Dz.toPy, Dz.toPys, Dz.Sg.put_mk, Dz.Sg.del_mk, Dz.spend_M, Dz.spend_pv, Dz.spend_n, Dz.spend_spend, Dz.spend_put, Dz.spend_del, Dz.spNext_iff, Dz.asI_lst, Dz.asI_tup, Dz.dFJ, Dz.dJs, Dz.dFmt, Dz.Tr.isNil, Gz.gPlain, Gz.gSeq, Gz.gNx, Gz.gIf, Gz.gYield, Gz.gOut, Gz.gForG, Gz.dGCall, Gz.dListG, Gz.dForG, Gz.GE.at, Dz.dDGet, Dz.rDGet, Dz.dDGet2, Dz.dDIn, Dz.dDSet, Dz.rDSet, Dz.dDF, Dz.dDM, Dz.dD0, Dz.dDc, Dz.rTupU, Dz.dStar, Dz.keyD, Dz.asD, Dz.dExtend, Dz.rExtendD, Dz.dFld, Dz.dSetFld, Dz.dMeth, Dz.dMake, Dz.dDictP, Dz.dDd, Dz.dPairs, Dz.dTab, Dz.dAugS, Dz.dNever, Dz.dIndex, Dz.dIndexT, List.map_cons, List.map_nil, List.length_cons, List.length_nil, List.length_map, List.length_set, List.replicate, Nat.reduceSub, Nat.reduceAdd, List.cons_append, List.nil_append, List.getElem?_cons_zero, List.getElem?_cons_succ, List.set_cons_zero, List.set_cons_succ, if_true, if_false, Bool.false_eq_true, id, Nat.sub_zero, Bool.not_true, Bool.not_false, true_and, and_true, ne_eq, not_false_eq_true, not_true_eq_false, reduceCtorEq, Option.map_some, Option.bind_some, String.reduceBEq, Bool.or_false, Bool.or_true, Bool.false_or, Bool.true_or, Bool.and_true, Bool.and_false, Bool.true_and, Bool.false_and, decide_true, decide_false, List.all_cons, List.all_nil, List.any_cons, List.any_nil, beq_self_eq_true, t_law_deck, s0]
  refine lc_map (fun x => match x with | .int i => .int (if i < 0 then -i else i) | x => x) rfl ?_ ?_ ?_
  · rw [cut_to (by omega)]
    rintro x hx k B hk
    obtain ⟨i, -, rfl⟩ := List.mem_map.mp (List.mem_of_mem_take hx)
    simp only [Dz.dSeq, Dz.dIf, Dz.dB, Dz.dOp, Dz.dUn, Dz.dVar, Dz.dC, Dz.dRet, Dz.dRetN, Dz.dNx, Dz.dBrk, Dz.dCnt, Dz.dAsg, Dz.dSet, Dz.dPar, Dz.dPar3, Dz.dgT, Dz.dgTt, Dz.dgCons, Dz.dgNil, Dz.dgN, Dz.dCall, Dz.dCons, Dz.dNil, Dz.dTup, Dz.dCB, Dz.dCN, Dz.dF, Dz.dM, Dz.dSz, Dz.dExpr, Dz.dNot, Dz.dAnd, Dz.dOr, Dz.dAndV, Dz.dOrV, Dz.dNotV, Dz.dIfE, Dz.dChain, Dz.dFrz, Dz.dIt, Dz.dRng1, Dz.dRng2, Dz.dSl, Dz.dNoPart, Dz.dPart, Dz.dCat, Dz.dRep, Dz.dLc, Dz.dFor, Dz.dAppend, Dz.dPop, Dz.dPopAt, Dz.rPopAtD, Dz.dSetIx, Dz.dYes, Dz.dRev, Dz.asI, Dz.asQ, Dz.asL, Dz.rIsN, Dz.rIs, Dz.rIsNot, Dz.isNon_d, Dz.isNon_non, Dz.isNon_tup, Dz.isNon_lst, Dz.isNon_str, Dz.isNon_int, Dz.isNon_bl, Dz.isNon_ref, Dz.isNon_dic, Dz.isNon_ty, Dz.rAddU, Dz.rSub, Dz.rMod, Dz.rDiv, Dz.rPow, Dz.rLt, Dz.rLe, Dz.rGt, Dz.rGe, Dz.rEq, Dz.rNe, Dz.rEqv, Dz.rInt2, Dz.rMax2, Dz.rMin2, Dz.rI, Dz.rCmp, Dz.rIxU, Dz.rAbs, Dz.rToInt, Dz.rListU, Dz.rSlU, Dz.trk, Dz.rLenU, Dz.rMulU, Dz.rNeg, Dz.startD, Dz.wipeD, Dz.Tr.d, Dz.Sg.put_M, Dz.Sg.put_n, Dz.Sg.put_pv, Dz.Sg.del_M, Dz.Sg.del_n, Dz.Sg.del_pv, Dz.Mm.put_same, Dz.Mm.put_put, Dz.Sg.put_put, Dz.Mm.put_ne, Dz.Mm.del_ne, Dz.rIsi, Dz.tyN, Dz.tyNames, Dz.isiT, Dz.subT, Dz.tyOk, Dz.tyNames, Dz.pyOf, Dz.toPy, Dz.toPys, Dz.Sg.put_mk, Dz.Sg.del_mk, Dz.spend_M, Dz.spend_pv, Dz.spend_n, Dz.spend_spend, Dz.spend_put, Dz.spend_del, Dz.spNext_iff, Dz.asI_lst, Dz.asI_tup, Dz.dFJ, Dz.dJs, Dz.dFmt, Dz.Tr.isNil, Gz.gPlain, Gz.gSeq, Gz.gNx, Gz.gIf, Gz.gYield, Gz.gOut, Gz.gForG, Gz.dGCall, Gz.dListG, Gz.dForG, Gz.GE.at, Dz.dDGet, Dz.rDGet, Dz.dDGet2, Dz.dDIn, Dz.dDSet, Dz.rDSet, Dz.dDF, Dz.dDM, Dz.dD0, Dz.dDc, Dz.rTupU, Dz.dStar, Dz.keyD, Dz.asD, Dz.dExtend, Dz.rExtendD, Dz.dFld, Dz.dSetFld, Dz.dMeth, Dz.dMake, Dz.dDictP, Dz.dDd, Dz.dPairs, Dz.dTab, Dz.dAugS, Dz.dNever, Dz.dIndex, Dz.dIndexT, List.map_cons, List.map_nil, List.length_cons, List.length_nil, List.length_map, List.length_set, List.replicate, Nat.reduceSub, Nat.reduceAdd, List.cons_append, List.nil_append, List.getElem?_cons_zero, List.getElem?_cons_succ, List.set_cons_zero, List.set_cons_succ, if_true, if_false, Bool.false_eq_true, id, Nat.sub_zero, Bool.not_true, Bool.not_false, true_and, and_true, ne_eq, not_false_eq_true, not_true_eq_false, reduceCtorEq, Option.map_some, Option.bind_some, String.reduceBEq, Bool.or_false, Bool.or_true, Bool.false_or, Bool.true_or, Bool.and_true, Bool.and_false, Bool.true_and, Bool.false_and, decide_true, decide_false, List.all_cons, List.all_nil, List.any_cons, List.any_nil, beq_self_eq_true]
    exact hk
  · rw [cut_to (by omega)]
    simp; omega
  · simp only [Dz.dSeq, Dz.dIf, Dz.dB, Dz.dOp, Dz.dUn, Dz.dVar, Dz.dC, Dz.dRet, Dz.dRetN, Dz.dNx, Dz.dBrk, Dz.dCnt, Dz.dAsg, Dz.dSet, Dz.dPar, Dz.dPar3, Dz.dgT, Dz.dgTt, Dz.dgCons, Dz.dgNil, Dz.dgN, Dz.dCall, Dz.dCons, Dz.dNil, Dz.dTup, Dz.dCB, Dz.dCN, Dz.dF, Dz.dM, Dz.dSz, Dz.dExpr, Dz.dNot, Dz.dAnd, Dz.dOr, Dz.dAndV, Dz.dOrV, Dz.dNotV, Dz.dIfE, Dz.dChain, Dz.dFrz, Dz.dIt, Dz.dRng1, Dz.dRng2, Dz.dSl, Dz.dNoPart, Dz.dPart, Dz.dCat, Dz.dRep, Dz.dLc, Dz.dFor, Dz.dAppend, Dz.dPop, Dz.dPopAt, Dz.rPopAtD, Dz.dSetIx, Dz.dYes, Dz.dRev, Dz.asI, Dz.asQ, Dz.asL, Dz.rIsN, Dz.rIs, Dz.rIsNot, Dz.isNon_d, Dz.isNon_non, Dz.isNon_tup, Dz.isNon_lst, Dz.isNon_str, Dz.isNon_int, Dz.isNon_bl, Dz.isNon_ref, Dz.isNon_dic, Dz.isNon_ty, Dz.rAddU, Dz.rSub, Dz.rMod, Dz.rDiv, Dz.rPow, Dz.rLt, Dz.rLe, Dz.rGt, Dz.rGe, Dz.rEq, Dz.rNe, Dz.rEqv, Dz.rInt2, Dz.rMax2, Dz.rMin2, Dz.rI, Dz.rCmp, Dz.rIxU, Dz.rAbs, Dz.rToInt, Dz.rListU, Dz.rSlU, Dz.trk, Dz.rLenU, Dz.rMulU, Dz.rNeg, Dz.startD, Dz.wipeD, Dz.Tr.d, Dz.Sg.put_M, Dz.Sg.put_n, Dz.Sg.put_pv, Dz.Sg.del_M, Dz.Sg.del_n, Dz.Sg.del_pv, Dz.Mm.put_same, Dz.Mm.put_put, Dz.Sg.put_put, Dz.Mm.put_ne, Dz.Mm.del_ne, Dz.rIsi, Dz.tyN, Dz.tyNames, Dz.isiT, Dz.subT, Dz.tyOk, Dz.tyNames, Dz.pyOf, Dz.toPy, Dz.toPys, Dz.Sg.put_mk, Dz.Sg.del_mk, Dz.spend_M, Dz.spend_pv, Dz.spend_n, Dz.spend_spend, Dz.spend_put, Dz.spend_del, Dz.spNext_iff, Dz.asI_lst, Dz.asI_tup, Dz.dFJ, Dz.dJs, Dz.dFmt, Dz.Tr.isNil, Gz.gPlain, Gz.gSeq, Gz.gNx, Gz.gIf, Gz.gYield, Gz.gOut, Gz.gForG, Gz.dGCall, Gz.dListG, Gz.dForG, Gz.GE.at, Dz.dDGet, Dz.rDGet, Dz.dDGet2, Dz.dDIn, Dz.dDSet, Dz.rDSet, Dz.dDF, Dz.dDM, Dz.dD0, Dz.dDc, Dz.rTupU, Dz.dStar, Dz.keyD, Dz.asD, Dz.dExtend, Dz.rExtendD, Dz.dFld, Dz.dSetFld, Dz.dMeth, Dz.dMake, Dz.dDictP, Dz.dDd, Dz.dPairs, Dz.dTab, Dz.dAugS, Dz.dNever, Dz.dIndex, Dz.dIndexT, List.map_cons, List.map_nil, List.length_cons, List.length_nil, List.length_map, List.length_set, List.replicate, Nat.reduceSub, Nat.reduceAdd, List.cons_append, List.nil_append, List.getElem?_cons_zero, List.getElem?_cons_succ, List.set_cons_zero, List.set_cons_succ, if_true, if_false, Bool.false_eq_true, id, Nat.sub_zero, Bool.not_true, Bool.not_false, true_and, and_true, ne_eq, not_false_eq_true, not_true_eq_false, reduceCtorEq, Option.map_some, Option.bind_some, String.reduceBEq, Bool.or_false, Bool.or_true, Bool.false_or, Bool.true_or, Bool.and_true, Bool.and_false, Bool.true_and, Bool.false_and, decide_true, decide_false, List.all_cons, List.all_nil, List.any_cons, List.any_nil, beq_self_eq_true]
    refine ⟨by decide, fun p _ => ?_⟩
    have key : ∃ cs : List Int, (List.map (fun x => match x with | D.int i => D.int (if i < 0 then -i else i) | x => x) (Dz.cutD (ns.map D.int) none (some 61)) ++ (List.replicate (if decide ((ns.length : Int) = 0) = true then (1 : Int) else 0).toNat [D.int 0]).flatten) = cs.map D.int ∧ 0 < cs.length ∧ cs.length ≤ 62 := by
      rw [cut_to (by omega)]
      cases ns with
      | nil => exact ⟨[0], rfl, by decide, by decide⟩
      | cons n ns =>
        refine ⟨((n :: ns).take 61).map fun i => if i < 0 then -i else i, ?_, by simp, by simp; omega⟩
        rw [if_neg (by simp; omega), ← List.map_take, List.map_map, List.map_map]
        simp only [Int.toNat_zero, List.replicate_zero, List.flatten_nil, List.append_nil]
        rfl
    obtain ⟨cs, hcs, hc0, hc1⟩ := key
    have hlen := congrArg List.length hcs
    rw [List.length_append, List.length_map, List.length_map] at hlen
    rw [hcs, hlen]
    refine ⟨by split <;> omega, by split <;> omega, by split <;> omega, by omega, fun a ha => ?_⟩
    refine lc_map (fun x => match x with | .int i => .int (i * (if decide ((10 : Int) ^ 18 ≤ i) = true then 1 else 0)) | x => x) (by simp only [asI, asQ, asL, Mm.put_same]) ?_ (by simp; omega) ?_
    · rintro x hx k B hk
      obtain ⟨i, -, rfl⟩ := List.mem_map.mp hx
      simp only [Dz.dSeq, Dz.dIf, Dz.dB, Dz.dOp, Dz.dUn, Dz.dVar, Dz.dC, Dz.dRet, Dz.dRetN, Dz.dNx, Dz.dBrk, Dz.dCnt, Dz.dAsg, Dz.dSet, Dz.dPar, Dz.dPar3, Dz.dgT, Dz.dgTt, Dz.dgCons, Dz.dgNil, Dz.dgN, Dz.dCall, Dz.dCons, Dz.dNil, Dz.dTup, Dz.dCB, Dz.dCN, Dz.dF, Dz.dM, Dz.dSz, Dz.dExpr, Dz.dNot, Dz.dAnd, Dz.dOr, Dz.dAndV, Dz.dOrV, Dz.dNotV, Dz.dIfE, Dz.dChain, Dz.dFrz, Dz.dIt, Dz.dRng1, Dz.dRng2, Dz.dSl, Dz.dNoPart, Dz.dPart, Dz.dCat, Dz.dRep, Dz.dLc, Dz.dFor, Dz.dAppend, Dz.dPop, Dz.dPopAt, Dz.rPopAtD, Dz.dSetIx, Dz.dYes, Dz.dRev, Dz.asI, Dz.asQ, Dz.asL, Dz.rIsN, Dz.rIs, Dz.rIsNot, Dz.isNon_d, Dz.isNon_non, Dz.isNon_tup, Dz.isNon_lst, Dz.isNon_str, Dz.isNon_int, Dz.isNon_bl, Dz.isNon_ref, Dz.isNon_dic, Dz.isNon_ty, Dz.rAddU, Dz.rSub, Dz.rMod, Dz.rDiv, Dz.rPow, Dz.rLt, Dz.rLe, Dz.rGt, Dz.rGe, Dz.rEq, Dz.rNe, Dz.rEqv, Dz.rInt2, Dz.rMax2, Dz.rMin2, Dz.rI, Dz.rCmp, Dz.rIxU, Dz.rAbs, Dz.rToInt, Dz.rListU, Dz.rSlU, Dz.trk, Dz.rLenU, Dz.rMulU, Dz.rNeg, Dz.startD, Dz.wipeD, Dz.Tr.d, Dz.Sg.put_M, Dz.Sg.put_n, Dz.Sg.put_pv, Dz.Sg.del_M, Dz.Sg.del_n, Dz.Sg.del_pv, Dz.Mm.put_same, Dz.Mm.put_put, Dz.Sg.put_put, Dz.Mm.put_ne, Dz.Mm.del_ne, Dz.rIsi, Dz.tyN, Dz.tyNames, Dz.isiT, Dz.subT, Dz.tyOk, Dz.tyNames, Dz.pyOf, Dz.toPy, Dz.toPys, Dz.Sg.put_mk, Dz.Sg.del_mk, Dz.spend_M, Dz.spend_pv, Dz.spend_n, Dz.spend_spend, Dz.spend_put, Dz.spend_del, Dz.spNext_iff, Dz.asI_lst, Dz.asI_tup, Dz.dFJ, Dz.dJs, Dz.dFmt, Dz.Tr.isNil, Gz.gPlain, Gz.gSeq, Gz.gNx, Gz.gIf, Gz.gYield, Gz.gOut, Gz.gForG, Gz.dGCall, Gz.dListG, Gz.dForG, Gz.GE.at, Dz.dDGet, Dz.rDGet, Dz.dDGet2, Dz.dDIn, Dz.dDSet, Dz.rDSet, Dz.dDF, Dz.dDM, Dz.dD0, Dz.dDc, Dz.rTupU, Dz.dStar, Dz.keyD, Dz.asD, Dz.dExtend, Dz.rExtendD, Dz.dFld, Dz.dSetFld, Dz.dMeth, Dz.dMake, Dz.dDictP, Dz.dDd, Dz.dPairs, Dz.dTab, Dz.dAugS, Dz.dNever, Dz.dIndex, Dz.dIndexT, List.map_cons, List.map_nil, List.length_cons, List.length_nil, List.length_map, List.length_set, List.replicate, Nat.reduceSub, Nat.reduceAdd, List.cons_append, List.nil_append, List.getElem?_cons_zero, List.getElem?_cons_succ, List.set_cons_zero, List.set_cons_succ, if_true, if_false, Bool.false_eq_true, id, Nat.sub_zero, Bool.not_true, Bool.not_false, true_and, and_true, ne_eq, not_false_eq_true, not_true_eq_false, reduceCtorEq, Option.map_some, Option.bind_some, String.reduceBEq, Bool.or_false, Bool.or_true, Bool.false_or, Bool.true_or, Bool.and_true, Bool.and_false, Bool.true_and, Bool.false_and, decide_true, decide_false, List.all_cons, List.all_nil, List.any_cons, List.any_nil, beq_self_eq_true]
      refine ⟨⟨by decide, by decide, by decide⟩, ?_, hk⟩
      split
      · exact cmul_r (by decide) (by decide)
      · exact cmul_r (by decide) (by decide)
    · intro b hb
      refine ⟨by decide, fun q hq => ?_⟩
      have e : ([] ++ (cs.map D.int).map fun x => match x with | .int i => D.int (i * (if decide ((10 : Int) ^ 18 ≤ i) = true then 1 else 0)) | x => x) = (cs.map fun i => i * (if decide ((10 : Int) ^ 18 ≤ i) = true then 1 else 0)).map D.int := by
        rw [List.nil_append, List.map_map, List.map_map]; rfl
      rw [e] at hq ⊢
      have nab : a ≠ b := fun z => by subst z; simp [Mm.put] at hb
      have nqb : q ≠ b := fun z => by subst z; simp [Mm.put] at hq
      have nqa : q ≠ a := fun z => by subst z; simp [Mm.put, nqb] at hq
      refine ⟨⟨Mm.put (fun _ => none) q (.box DkI), 1000000000000, [a, b]⟩, ?_, hR q _ (by simp [Dk]) rfl⟩
      refine box_close (p := q) (s' := ⟨Mm.put (fun _ => none) q (.box DkI), 1000000000000, [a, b]⟩) (I := DkI) (st := [.inr cs, .inr (cs.map fun i => i * (if decide ((10 : Int) ^ 18 ≤ i) = true then 1 else 0)), .inl 0]) (k := 1000000000000) ⟨_, _, _, rfl, by simp, hc0, by omega, by omega, by decide⟩ (Nat.le_refl _) ?_ ?_ (by simp [nab]) (by simp [nqa, nqb]) rfl (by simp) ?_ ?_
      · simp [Sg.put, Mm.put, rawV]
      · refine ⟨?_, ?_, rfl⟩
        · simp [Sg.put, Mm.put, nqa.symm, nab]
        · simp [Sg.put, Mm.put, nqb.symm]
      · intro c hc
        simp only [List.mem_cons, List.not_mem_nil, or_false] at hc
        rcases hc with rfl | rfl
        · simp [Mm.put, nqa.symm]
        · simp [Mm.put, nqb.symm]
      · intro c o hc hm
        simp [Mm.put, hc] at hm
end Pr

namespace Pr
open PySem PySem.Spec PyProof.Rows L2 Dz
def abc : List Nat := [97, 98, 99, 100, 101, 102, 103, 104, 105, 106, 107, 108, 109, 110, 111, 112, 113, 114, 115, 116, 117, 118, 119, 120, 121, 122]
theorem abc_eq : ("abcdefghijklmnopqrstuvwxyz" : Str).cps.toList = abc := by decide +kernel
theorem abc_len : ("abcdefghijklmnopqrstuvwxyz" : Str).length = 26 := by decide +kernel
def Lt (c : Nat) : Prop := 97 ≤ c ∧ c ≤ 122
theorem abc_lt : ∀ c ∈ abc, Lt c := by unfold Lt abc; decide
def spLetters : SpD := fun ws s R _ => ∃ (p : Addr) (z : Nat), ws = [.ref p, .int z] ∧ Dk s p ∧ z ≤ 26 ∧ 30 ≤ s.n ∧ ∀ ls : List Nat, ls.length = z → (∀ c ∈ ls, Lt c) → R (.lst (ls.map chr)) (spend s 30)
theorem e_law_letters : ∀ ws s R, spLetters ws s R X0 → ws.length = 2 ∧ t_law_letters spNext { nx := fun _ s' => Lw R .non s', rt := Lw R } (Dz.startD N_law_letters ws) s := by
  rintro ws s R ⟨p, z, rfl, hp, hz, hn, hR⟩
  refine ⟨rfl, ?_⟩
  have ch : (fun c => D.str ⟨#[c]⟩) = chr := rfl
  simp only [Dz.dSeq, Dz.dIf, Dz.dB, Dz.dOp, Dz.dUn, Dz.dVar, Dz.dC, Dz.dRet, Dz.dRetN, Dz.dNx, Dz.dBrk, Dz.dCnt, Dz.dAsg, Dz.dSet, Dz.dPar, Dz.dPar3, Dz.dgT, Dz.dgTt, Dz.dgCons, Dz.dgNil, Dz.dgN, Dz.dCall, Dz.dCons, Dz.dNil, Dz.dTup, Dz.dCB, Dz.dCN, Dz.dF, Dz.dM, Dz.dSz, Dz.dExpr, Dz.dNot, Dz.dAnd, Dz.dOr, Dz.dAndV, Dz.dOrV, Dz.dNotV, Dz.dIfE, Dz.dChain, Dz.dFrz, Dz.dIt, Dz.dRng1, Dz.dRng2, Dz.dSl, Dz.dNoPart, Dz.dPart, Dz.dCat, Dz.dRep, Dz.dLc, Dz.dFor, Dz.dAppend, Dz.dPop, Dz.dPopAt, Dz.rPopAtD, Dz.dSetIx, Dz.dYes, Dz.dRev, Dz.asI, Dz.asQ, Dz.asL, Dz.rIsN, Dz.rIs, Dz.rIsNot, Dz.isNon_d, Dz.isNon_non, Dz.isNon_tup, Dz.isNon_lst, Dz.isNon_str, Dz.isNon_int, Dz.isNon_bl, Dz.isNon_ref, Dz.isNon_dic, Dz.isNon_ty, Dz.rAddU, Dz.rSub, Dz.rMod, Dz.rDiv, Dz.rPow, Dz.rLt, Dz.rLe, Dz.rGt, Dz.rGe, Dz.rEq, Dz.rNe, Dz.rEqv, Dz.rInt2, Dz.rMax2, Dz.rMin2, Dz.rI, Dz.rCmp, Dz.rIxU, Dz.rAbs, Dz.rToInt, Dz.rListU, Dz.rSlU, Dz.trk, Dz.rLenU, Dz.rMulU, Dz.rNeg, Dz.startD, Dz.wipeD, Dz.Tr.d, Dz.Sg.put_M, Dz.Sg.put_n, Dz.Sg.put_pv, Dz.Sg.del_M, Dz.Sg.del_n, Dz.Sg.del_pv, Dz.Mm.put_same, Dz.Mm.put_put, Dz.Sg.put_put, Dz.Mm.put_ne, Dz.Mm.del_ne, Dz.rIsi, Dz.tyN, Dz.tyNames, Dz.isiT, Dz.subT, Dz.tyOk, Dz.tyNames, Dz.pyOf, Dz.toPy, Dz.toPys, Dz.Sg.put_mk, Dz.Sg.del_mk, Dz.spend_M, Dz.spend_pv, Dz.spend_n, Dz.spend_spend, Dz.spend_put, Dz.spend_del, Dz.spNext_iff, Dz.asI_lst, Dz.asI_tup, Dz.dFJ, Dz.dJs, Dz.dFmt, Dz.Tr.isNil, Gz.gPlain, Gz.gSeq, Gz.gNx, Gz.gIf, Gz.gYield, Gz.gOut, Gz.gForG, Gz.dGCall, Gz.dListG, Gz.dForG, Gz.GE.at, Dz.dDGet, Dz.rDGet, Dz.dDGet2, Dz.dDIn, Dz.dDSet, Dz.rDSet, Dz.dDF, Dz.dDM, Dz.dD0, Dz.dDc, Dz.rTupU, Dz.dStar, Dz.keyD, Dz.asD, Dz.dExtend, Dz.rExtendD, Dz.dFld, Dz.dSetFld, Dz.dMeth, Dz.dMake, Dz.dDictP, Dz.dDd, Dz.dPairs, Dz.dTab, Dz.dAugS, Dz.dNever, Dz.dIndex, Dz.dIndexT, List.map_cons, List.map_nil, List.length_cons, List.length_nil, List.length_map, List.length_set, List.replicate, Nat.reduceSub, Nat.reduceAdd, List.cons_append, List.nil_append, List.getElem?_cons_zero, List.getElem?_cons_succ, List.set_cons_zero, List.set_cons_succ, if_true, if_false, Bool.false_eq_true, id, Nat.sub_zero, Bool.not_true, Bool.not_false, true_and, and_true, ne_eq, not_false_eq_true, not_true_eq_false, reduceCtorEq, Option.map_some, Option.bind_some, String.reduceBEq, Bool.or_false, Bool.or_true, Bool.false_or, Bool.true_or, Bool.and_true, Bool.and_false, Bool.true_and, Bool.false_and, decide_true, decide_false, List.all_cons, List.all_nil, List.any_cons, List.any_nil, beq_self_eq_true, t_law_letters, abc_eq, abc_len, ch]
  refine ⟨hp, by decide, by decide, by omega, fun r r0 r1 => ⟨by decide, fun a ha => ⟨by decide, ?_⟩⟩⟩
  have npa : p ≠ a := hp.neN ha
  have o1 : Ov s ((spend s 1).put a (.lst (abc.map chr))) 1 := by simpa using ((Ov.refl s).spend (k := 1)).put ha
  have hz1 : (z : Int).toNat = z := by omega
  split
  · refine ⟨o1.dk hp, by decide, by decide, by omega, fun i i0 i1 => ?_⟩
    obtain ⟨c, e1, e2, e3⟩ := atI_map (f := chr) (xs := abc) (i := i) i0 i1
    rw [e3]
    refine ⟨by decide, fun q hq => ⟨by omega, by omega, by omega, ?_⟩⟩
    have hq1 : s.M q = none := o1.none hq
    refine ((((Ov.refl s).spend (k := 2)).put ha).put hq1 |>.del hq1).lw (k := 30) (by omega) ?_
    rw [hz1, show (List.replicate z [chr c]).flatten = (List.replicate z c).map chr by rw [List.map_replicate, List.flatten_replicate_singleton]]
    exact hR _ (by simp) fun x hx => by
      rw [(List.mem_replicate.mp hx).2]
      exact abc_lt c e2
  · split
    · refine ⟨by omega, by omega, ?_⟩
      rw [hz1, show (spend s 1).put a (MO.lst (abc.map chr)) = spend (s.put a (MO.lst (abc.map chr))) 1 from rfl]
      refine lc_draw 1 (fun y => ∃ c, y = chr c ∧ Lt c) rfl (fun _ => rfl) ?_ (by simp [rg_len]; omega) ?_
      · rintro x hx k B t ht hk
        obtain ⟨j, hj, rfl⟩ := rg_mem hx
        rw [rg_len] at ht
        simp only [Dz.dSeq, Dz.dIf, Dz.dB, Dz.dOp, Dz.dUn, Dz.dVar, Dz.dC, Dz.dRet, Dz.dRetN, Dz.dNx, Dz.dBrk, Dz.dCnt, Dz.dAsg, Dz.dSet, Dz.dPar, Dz.dPar3, Dz.dgT, Dz.dgTt, Dz.dgCons, Dz.dgNil, Dz.dgN, Dz.dCall, Dz.dCons, Dz.dNil, Dz.dTup, Dz.dCB, Dz.dCN, Dz.dF, Dz.dM, Dz.dSz, Dz.dExpr, Dz.dNot, Dz.dAnd, Dz.dOr, Dz.dAndV, Dz.dOrV, Dz.dNotV, Dz.dIfE, Dz.dChain, Dz.dFrz, Dz.dIt, Dz.dRng1, Dz.dRng2, Dz.dSl, Dz.dNoPart, Dz.dPart, Dz.dCat, Dz.dRep, Dz.dLc, Dz.dFor, Dz.dAppend, Dz.dPop, Dz.dPopAt, Dz.rPopAtD, Dz.dSetIx, Dz.dYes, Dz.dRev, Dz.asI, Dz.asQ, Dz.asL, Dz.rIsN, Dz.rIs, Dz.rIsNot, Dz.isNon_d, Dz.isNon_non, Dz.isNon_tup, Dz.isNon_lst, Dz.isNon_str, Dz.isNon_int, Dz.isNon_bl, Dz.isNon_ref, Dz.isNon_dic, Dz.isNon_ty, Dz.rAddU, Dz.rSub, Dz.rMod, Dz.rDiv, Dz.rPow, Dz.rLt, Dz.rLe, Dz.rGt, Dz.rGe, Dz.rEq, Dz.rNe, Dz.rEqv, Dz.rInt2, Dz.rMax2, Dz.rMin2, Dz.rI, Dz.rCmp, Dz.rIxU, Dz.rAbs, Dz.rToInt, Dz.rListU, Dz.rSlU, Dz.trk, Dz.rLenU, Dz.rMulU, Dz.rNeg, Dz.startD, Dz.wipeD, Dz.Tr.d, Dz.Sg.put_M, Dz.Sg.put_n, Dz.Sg.put_pv, Dz.Sg.del_M, Dz.Sg.del_n, Dz.Sg.del_pv, Dz.Mm.put_same, Dz.Mm.put_put, Dz.Sg.put_put, Dz.Mm.put_ne, Dz.Mm.del_ne, Dz.rIsi, Dz.tyN, Dz.tyNames, Dz.isiT, Dz.subT, Dz.tyOk, Dz.tyNames, Dz.pyOf, Dz.toPy, Dz.toPys, Dz.Sg.put_mk, Dz.Sg.del_mk, Dz.spend_M, Dz.spend_pv, Dz.spend_n, Dz.spend_spend, Dz.spend_put, Dz.spend_del, Dz.spNext_iff, Dz.asI_lst, Dz.asI_tup, Dz.dFJ, Dz.dJs, Dz.dFmt, Dz.Tr.isNil, Gz.gPlain, Gz.gSeq, Gz.gNx, Gz.gIf, Gz.gYield, Gz.gOut, Gz.gForG, Gz.dGCall, Gz.dListG, Gz.dForG, Gz.GE.at, Dz.dDGet, Dz.rDGet, Dz.dDGet2, Dz.dDIn, Dz.dDSet, Dz.rDSet, Dz.dDF, Dz.dDM, Dz.dD0, Dz.dDc, Dz.rTupU, Dz.dStar, Dz.keyD, Dz.asD, Dz.dExtend, Dz.rExtendD, Dz.dFld, Dz.dSetFld, Dz.dMeth, Dz.dMake, Dz.dDictP, Dz.dDd, Dz.dPairs, Dz.dTab, Dz.dAugS, Dz.dNever, Dz.dIndex, Dz.dIndexT, List.map_cons, List.map_nil, List.length_cons, List.length_nil, List.length_map, List.length_set, List.replicate, Nat.reduceSub, Nat.reduceAdd, List.cons_append, List.nil_append, List.getElem?_cons_zero, List.getElem?_cons_succ, List.set_cons_zero, List.set_cons_succ, if_true, if_false, Bool.false_eq_true, id, Nat.sub_zero, Bool.not_true, Bool.not_false, true_and, and_true, ne_eq, not_false_eq_true, not_true_eq_false, reduceCtorEq, Option.map_some, Option.bind_some, String.reduceBEq, Bool.or_false, Bool.or_true, Bool.false_or, Bool.true_or, Bool.and_true, Bool.and_false, Bool.true_and, Bool.false_and, decide_true, decide_false, List.all_cons, List.all_nil, List.any_cons, List.any_nil, beq_self_eq_true]
        refine ⟨Dk.put hp npa, by decide, by decide, by omega, fun i i0 i1 => ?_⟩
        obtain ⟨c, e1, e2, e3⟩ := atI_map (f := chr) (xs := abc) (i := i) i0 (by have : (abc.length : Int) = 26 := rfl; omega)
        rw [e3]
        exact hk (chr c) ⟨c, rfl, abc_lt c e2⟩
      · intro ys hy1 hy2
        rw [rg_len] at hy1
        have : ∃ ls : List Nat, ys = ls.map chr ∧ ∀ c ∈ ls, Lt c := by
          clear hy1
          induction ys with
          | nil => exact ⟨[], rfl, fun _ h => nomatch h⟩
          | cons y ys ih =>
            obtain ⟨ls, e, h⟩ := ih fun y hy => hy2 y (List.mem_cons_of_mem _ hy)
            obtain ⟨c, rfl, hc⟩ := hy2 y List.mem_cons_self
            refine ⟨c :: ls, by rw [e]; rfl, fun x hx => ?_⟩
            rcases List.mem_cons.mp hx with rfl | hx
            · exact hc
            · exact h x hx
        obtain ⟨ls, rfl, hls⟩ := this
        rw [List.length_map] at hy1
        rw [rg_len, List.nil_append]
        exact (((Ov.refl s).put ha).spend (k := 1 + 1 * z)).lw (by omega) (hR ls hy1 hls)
    · refine ⟨by decide, fun b hb => ?_⟩
      have hb1 : s.M b = none := o1.none hb
      have nab : a ≠ b := fun e => by subst e; simp at hb
      have npb : p ≠ b := hp.neN hb1
      refine ⟨z + 1, ?_⟩
      suffices h : ∀ (k : Nat) (so fo : List Nat) (s' : Sg), fo.length + k = z → fo.length + so.length = 26 → (∀ c ∈ so, Lt c) → (∀ c ∈ fo, Lt c) → Ov s s' (1 + fo.length) → s'.M a = some (.lst (so.map chr)) → s'.M b = some (.lst (fo.map chr)) →
          dWhileN (dB (dOp rLt (dCB rLenU (dCons (dVar 4) dNil)) (dVar 1))) (dExpr (dAppend (dVar 4) (dPopAt (dVar 3) (dCall spNext (dCons (dVar 0) (dCons (dCB rLenU (dCons (dVar 3) dNil)) dNil))))))
            { nx := dRet (dIfE (dB (dOp rEq (dVar 2) (dC (.int 0)))) (dFrz (dVar 4)) (dF (dCN rSortS (dCons (dVar 4) dNil)))) { nx := fun x s' => Lw R .non s', rt := Lw R }, rt := Lw R } (k + 1) [some (.ref p), some (.int z), some (.int r), some (.ref a), some (.ref b), none] s' by
        refine h z abc [] _ (by simp) rfl abc_lt (fun _ h => nomatch h) ?_ ?_ ?_
        · simpa using o1.put hb1
        · simp [Mm.put, nab]
        · simp [Mm.put]
      intro k
      induction k with
      | zero =>
        intro so fo s' h1 h2 h3 h4 ov ma mb
        simp only [Dz.dSeq, Dz.dIf, Dz.dB, Dz.dOp, Dz.dUn, Dz.dVar, Dz.dC, Dz.dRet, Dz.dRetN, Dz.dNx, Dz.dBrk, Dz.dCnt, Dz.dAsg, Dz.dSet, Dz.dPar, Dz.dPar3, Dz.dgT, Dz.dgTt, Dz.dgCons, Dz.dgNil, Dz.dgN, Dz.dCall, Dz.dCons, Dz.dNil, Dz.dTup, Dz.dCB, Dz.dCN, Dz.dF, Dz.dM, Dz.dSz, Dz.dExpr, Dz.dNot, Dz.dAnd, Dz.dOr, Dz.dAndV, Dz.dOrV, Dz.dNotV, Dz.dIfE, Dz.dChain, Dz.dFrz, Dz.dIt, Dz.dRng1, Dz.dRng2, Dz.dSl, Dz.dNoPart, Dz.dPart, Dz.dCat, Dz.dRep, Dz.dLc, Dz.dFor, Dz.dAppend, Dz.dPop, Dz.dPopAt, Dz.rPopAtD, Dz.dSetIx, Dz.dYes, Dz.dRev, Dz.asI, Dz.asQ, Dz.asL, Dz.rIsN, Dz.rIs, Dz.rIsNot, Dz.isNon_d, Dz.isNon_non, Dz.isNon_tup, Dz.isNon_lst, Dz.isNon_str, Dz.isNon_int, Dz.isNon_bl, Dz.isNon_ref, Dz.isNon_dic, Dz.isNon_ty, Dz.rAddU, Dz.rSub, Dz.rMod, Dz.rDiv, Dz.rPow, Dz.rLt, Dz.rLe, Dz.rGt, Dz.rGe, Dz.rEq, Dz.rNe, Dz.rEqv, Dz.rInt2, Dz.rMax2, Dz.rMin2, Dz.rI, Dz.rCmp, Dz.rIxU, Dz.rAbs, Dz.rToInt, Dz.rListU, Dz.rSlU, Dz.trk, Dz.rLenU, Dz.rMulU, Dz.rNeg, Dz.startD, Dz.wipeD, Dz.Tr.d, Dz.Sg.put_M, Dz.Sg.put_n, Dz.Sg.put_pv, Dz.Sg.del_M, Dz.Sg.del_n, Dz.Sg.del_pv, Dz.Mm.put_same, Dz.Mm.put_put, Dz.Sg.put_put, Dz.Mm.put_ne, Dz.Mm.del_ne, Dz.rIsi, Dz.tyN, Dz.tyNames, Dz.isiT, Dz.subT, Dz.tyOk, Dz.tyNames, Dz.pyOf, Dz.toPy, Dz.toPys, Dz.Sg.put_mk, Dz.Sg.del_mk, Dz.spend_M, Dz.spend_pv, Dz.spend_n, Dz.spend_spend, Dz.spend_put, Dz.spend_del, Dz.spNext_iff, Dz.asI_lst, Dz.asI_tup, Dz.dFJ, Dz.dJs, Dz.dFmt, Dz.Tr.isNil, Gz.gPlain, Gz.gSeq, Gz.gNx, Gz.gIf, Gz.gYield, Gz.gOut, Gz.gForG, Gz.dGCall, Gz.dListG, Gz.dForG, Gz.GE.at, Dz.dDGet, Dz.rDGet, Dz.dDGet2, Dz.dDIn, Dz.dDSet, Dz.rDSet, Dz.dDF, Dz.dDM, Dz.dD0, Dz.dDc, Dz.rTupU, Dz.dStar, Dz.keyD, Dz.asD, Dz.dExtend, Dz.rExtendD, Dz.dFld, Dz.dSetFld, Dz.dMeth, Dz.dMake, Dz.dDictP, Dz.dDd, Dz.dPairs, Dz.dTab, Dz.dAugS, Dz.dNever, Dz.dIndex, Dz.dIndexT, List.map_cons, List.map_nil, List.length_cons, List.length_nil, List.length_map, List.length_set, List.replicate, Nat.reduceSub, Nat.reduceAdd, List.cons_append, List.nil_append, List.getElem?_cons_zero, List.getElem?_cons_succ, List.set_cons_zero, List.set_cons_succ, if_true, if_false, Bool.false_eq_true, id, Nat.sub_zero, Bool.not_true, Bool.not_false, true_and, and_true, ne_eq, not_false_eq_true, not_true_eq_false, reduceCtorEq, Option.map_some, Option.bind_some, String.reduceBEq, Bool.or_false, Bool.or_true, Bool.false_or, Bool.true_or, Bool.and_true, Bool.and_false, Bool.true_and, Bool.false_and, decide_true, decide_false, List.all_cons, List.all_nil, List.any_cons, List.any_nil, beq_self_eq_true, dWhileN, mb, List.length_map]
        have e : ¬ (decide ((fo.length : Int) < (z : Int)) = true) := by rw [decide_eq_true_eq]; omega
        rw [if_neg e]
        split
        · exact (ov.del hb1).lw (by omega) (hR fo (by omega) h4)
        · refine ⟨.ref b, fo.map (fun c => ⟨#[c]⟩), rfl, ?_, by simp; omega, fun ys pm _ => ?_⟩
          · simp only [Dz.dSeq, Dz.dIf, Dz.dB, Dz.dOp, Dz.dUn, Dz.dVar, Dz.dC, Dz.dRet, Dz.dRetN, Dz.dNx, Dz.dBrk, Dz.dCnt, Dz.dAsg, Dz.dSet, Dz.dPar, Dz.dPar3, Dz.dgT, Dz.dgTt, Dz.dgCons, Dz.dgNil, Dz.dgN, Dz.dCall, Dz.dCons, Dz.dNil, Dz.dTup, Dz.dCB, Dz.dCN, Dz.dF, Dz.dM, Dz.dSz, Dz.dExpr, Dz.dNot, Dz.dAnd, Dz.dOr, Dz.dAndV, Dz.dOrV, Dz.dNotV, Dz.dIfE, Dz.dChain, Dz.dFrz, Dz.dIt, Dz.dRng1, Dz.dRng2, Dz.dSl, Dz.dNoPart, Dz.dPart, Dz.dCat, Dz.dRep, Dz.dLc, Dz.dFor, Dz.dAppend, Dz.dPop, Dz.dPopAt, Dz.rPopAtD, Dz.dSetIx, Dz.dYes, Dz.dRev, Dz.asI, Dz.asQ, Dz.asL, Dz.rIsN, Dz.rIs, Dz.rIsNot, Dz.isNon_d, Dz.isNon_non, Dz.isNon_tup, Dz.isNon_lst, Dz.isNon_str, Dz.isNon_int, Dz.isNon_bl, Dz.isNon_ref, Dz.isNon_dic, Dz.isNon_ty, Dz.rAddU, Dz.rSub, Dz.rMod, Dz.rDiv, Dz.rPow, Dz.rLt, Dz.rLe, Dz.rGt, Dz.rGe, Dz.rEq, Dz.rNe, Dz.rEqv, Dz.rInt2, Dz.rMax2, Dz.rMin2, Dz.rI, Dz.rCmp, Dz.rIxU, Dz.rAbs, Dz.rToInt, Dz.rListU, Dz.rSlU, Dz.trk, Dz.rLenU, Dz.rMulU, Dz.rNeg, Dz.startD, Dz.wipeD, Dz.Tr.d, Dz.Sg.put_M, Dz.Sg.put_n, Dz.Sg.put_pv, Dz.Sg.del_M, Dz.Sg.del_n, Dz.Sg.del_pv, Dz.Mm.put_same, Dz.Mm.put_put, Dz.Sg.put_put, Dz.Mm.put_ne, Dz.Mm.del_ne, Dz.rIsi, Dz.tyN, Dz.tyNames, Dz.isiT, Dz.subT, Dz.tyOk, Dz.tyNames, Dz.pyOf, Dz.toPy, Dz.toPys, Dz.Sg.put_mk, Dz.Sg.del_mk, Dz.spend_M, Dz.spend_pv, Dz.spend_n, Dz.spend_spend, Dz.spend_put, Dz.spend_del, Dz.spNext_iff, Dz.asI_lst, Dz.asI_tup, Dz.dFJ, Dz.dJs, Dz.dFmt, Dz.Tr.isNil, Gz.gPlain, Gz.gSeq, Gz.gNx, Gz.gIf, Gz.gYield, Gz.gOut, Gz.gForG, Gz.dGCall, Gz.dListG, Gz.dForG, Gz.GE.at, Dz.dDGet, Dz.rDGet, Dz.dDGet2, Dz.dDIn, Dz.dDSet, Dz.rDSet, Dz.dDF, Dz.dDM, Dz.dD0, Dz.dDc, Dz.rTupU, Dz.dStar, Dz.keyD, Dz.asD, Dz.dExtend, Dz.rExtendD, Dz.dFld, Dz.dSetFld, Dz.dMeth, Dz.dMake, Dz.dDictP, Dz.dDd, Dz.dPairs, Dz.dTab, Dz.dAugS, Dz.dNever, Dz.dIndex, Dz.dIndexT, List.map_cons, List.map_nil, List.length_cons, List.length_nil, List.length_map, List.length_set, List.replicate, Nat.reduceSub, Nat.reduceAdd, List.cons_append, List.nil_append, List.getElem?_cons_zero, List.getElem?_cons_succ, List.set_cons_zero, List.set_cons_succ, if_true, if_false, Bool.false_eq_true, id, Nat.sub_zero, Bool.not_true, Bool.not_false, true_and, and_true, ne_eq, not_false_eq_true, not_true_eq_false, reduceCtorEq, Option.map_some, Option.bind_some, String.reduceBEq, Bool.or_false, Bool.or_true, Bool.false_or, Bool.true_or, Bool.and_true, Bool.and_false, Bool.true_and, Bool.false_and, decide_true, decide_false, List.all_cons, List.all_nil, List.any_cons, List.any_nil, beq_self_eq_true, mb, List.map_map]; rfl
          · have key : ∃ ls : List Nat, ys.map D.str = ls.map chr ∧ ls.length = fo.length ∧ ∀ c ∈ ls, Lt c := by
              refine ⟨ys.map fun y => y.cps.toList.headD 0, ?_, by simpa using pm.length_eq, ?_⟩
              · rw [List.map_map]
                apply List.map_congr_left
                intro y hy
                obtain ⟨c, -, rfl⟩ := List.mem_map.mp (pm.mem_iff.mp hy)
                rfl
              · intro c hc
                obtain ⟨y, hy, rfl⟩ := List.mem_map.mp hc
                obtain ⟨c', hc', rfl⟩ := List.mem_map.mp (pm.mem_iff.mp hy)
                exact h4 c' hc'
            obtain ⟨ls, e1, e2, e3⟩ := key
            rw [e1]
            exact ov.lw (by omega) (hR ls (by omega) e3)
      | succ k ih =>
        intro so fo s' h1 h2 h3 h4 ov ma mb
        unfold dWhileN
        simp only [Dz.dSeq, Dz.dIf, Dz.dB, Dz.dOp, Dz.dUn, Dz.dVar, Dz.dC, Dz.dRet, Dz.dRetN, Dz.dNx, Dz.dBrk, Dz.dCnt, Dz.dAsg, Dz.dSet, Dz.dPar, Dz.dPar3, Dz.dgT, Dz.dgTt, Dz.dgCons, Dz.dgNil, Dz.dgN, Dz.dCall, Dz.dCons, Dz.dNil, Dz.dTup, Dz.dCB, Dz.dCN, Dz.dF, Dz.dM, Dz.dSz, Dz.dExpr, Dz.dNot, Dz.dAnd, Dz.dOr, Dz.dAndV, Dz.dOrV, Dz.dNotV, Dz.dIfE, Dz.dChain, Dz.dFrz, Dz.dIt, Dz.dRng1, Dz.dRng2, Dz.dSl, Dz.dNoPart, Dz.dPart, Dz.dCat, Dz.dRep, Dz.dLc, Dz.dFor, Dz.dAppend, Dz.dPop, Dz.dPopAt, Dz.rPopAtD, Dz.dSetIx, Dz.dYes, Dz.dRev, Dz.asI, Dz.asQ, Dz.asL, Dz.rIsN, Dz.rIs, Dz.rIsNot, Dz.isNon_d, Dz.isNon_non, Dz.isNon_tup, Dz.isNon_lst, Dz.isNon_str, Dz.isNon_int, Dz.isNon_bl, Dz.isNon_ref, Dz.isNon_dic, Dz.isNon_ty, Dz.rAddU, Dz.rSub, Dz.rMod, Dz.rDiv, Dz.rPow, Dz.rLt, Dz.rLe, Dz.rGt, Dz.rGe, Dz.rEq, Dz.rNe, Dz.rEqv, Dz.rInt2, Dz.rMax2, Dz.rMin2, Dz.rI, Dz.rCmp, Dz.rIxU, Dz.rAbs, Dz.rToInt, Dz.rListU, Dz.rSlU, Dz.trk, Dz.rLenU, Dz.rMulU, Dz.rNeg, Dz.startD, Dz.wipeD, Dz.Tr.d, Dz.Sg.put_M, Dz.Sg.put_n, Dz.Sg.put_pv, Dz.Sg.del_M, Dz.Sg.del_n, Dz.Sg.del_pv, Dz.Mm.put_same, Dz.Mm.put_put, Dz.Sg.put_put, Dz.Mm.put_ne, Dz.Mm.del_ne, Dz.rIsi, Dz.tyN, Dz.tyNames, Dz.isiT, Dz.subT, Dz.tyOk, Dz.tyNames, Dz.pyOf, Dz.toPy, Dz.toPys, Dz.Sg.put_mk, Dz.Sg.del_mk, Dz.spend_M, Dz.spend_pv, Dz.spend_n, Dz.spend_spend, Dz.spend_put, Dz.spend_del, Dz.spNext_iff, Dz.asI_lst, Dz.asI_tup, Dz.dFJ, Dz.dJs, Dz.dFmt, Dz.Tr.isNil, Gz.gPlain, Gz.gSeq, Gz.gNx, Gz.gIf, Gz.gYield, Gz.gOut, Gz.gForG, Gz.dGCall, Gz.dListG, Gz.dForG, Gz.GE.at, Dz.dDGet, Dz.rDGet, Dz.dDGet2, Dz.dDIn, Dz.dDSet, Dz.rDSet, Dz.dDF, Dz.dDM, Dz.dD0, Dz.dDc, Dz.rTupU, Dz.dStar, Dz.keyD, Dz.asD, Dz.dExtend, Dz.rExtendD, Dz.dFld, Dz.dSetFld, Dz.dMeth, Dz.dMake, Dz.dDictP, Dz.dDd, Dz.dPairs, Dz.dTab, Dz.dAugS, Dz.dNever, Dz.dIndex, Dz.dIndexT, List.map_cons, List.map_nil, List.length_cons, List.length_nil, List.length_map, List.length_set, List.replicate, Nat.reduceSub, Nat.reduceAdd, List.cons_append, List.nil_append, List.getElem?_cons_zero, List.getElem?_cons_succ, List.set_cons_zero, List.set_cons_succ, if_true, if_false, Bool.false_eq_true, id, Nat.sub_zero, Bool.not_true, Bool.not_false, true_and, and_true, ne_eq, not_false_eq_true, not_true_eq_false, reduceCtorEq, Option.map_some, Option.bind_some, String.reduceBEq, Bool.or_false, Bool.or_true, Bool.false_or, Bool.true_or, Bool.and_true, Bool.and_false, Bool.true_and, Bool.false_and, decide_true, decide_false, List.all_cons, List.all_nil, List.any_cons, List.any_nil, beq_self_eq_true, mb, ma, List.length_map]
        have e : decide ((fo.length : Int) < (z : Int)) = true := by rw [decide_eq_true_eq]; omega
        rw [if_pos e]
        refine ⟨ov.dk hp, by omega, by omega, by have := ov.n; omega, fun i i0 i1 => ⟨by omega, ?_⟩⟩
        rw [ixN_nat i0 i1]
        have hi : i.toNat < so.length := by omega
        have e3 : (so.map chr)[i.toNat]? = some (chr so[i.toNat]) := by simp [hi]
        dsimp only
        rw [e3]
        simp only [Dz.dSeq, Dz.dIf, Dz.dB, Dz.dOp, Dz.dUn, Dz.dVar, Dz.dC, Dz.dRet, Dz.dRetN, Dz.dNx, Dz.dBrk, Dz.dCnt, Dz.dAsg, Dz.dSet, Dz.dPar, Dz.dPar3, Dz.dgT, Dz.dgTt, Dz.dgCons, Dz.dgNil, Dz.dgN, Dz.dCall, Dz.dCons, Dz.dNil, Dz.dTup, Dz.dCB, Dz.dCN, Dz.dF, Dz.dM, Dz.dSz, Dz.dExpr, Dz.dNot, Dz.dAnd, Dz.dOr, Dz.dAndV, Dz.dOrV, Dz.dNotV, Dz.dIfE, Dz.dChain, Dz.dFrz, Dz.dIt, Dz.dRng1, Dz.dRng2, Dz.dSl, Dz.dNoPart, Dz.dPart, Dz.dCat, Dz.dRep, Dz.dLc, Dz.dFor, Dz.dAppend, Dz.dPop, Dz.dPopAt, Dz.rPopAtD, Dz.dSetIx, Dz.dYes, Dz.dRev, Dz.asI, Dz.asQ, Dz.asL, Dz.rIsN, Dz.rIs, Dz.rIsNot, Dz.isNon_d, Dz.isNon_non, Dz.isNon_tup, Dz.isNon_lst, Dz.isNon_str, Dz.isNon_int, Dz.isNon_bl, Dz.isNon_ref, Dz.isNon_dic, Dz.isNon_ty, Dz.rAddU, Dz.rSub, Dz.rMod, Dz.rDiv, Dz.rPow, Dz.rLt, Dz.rLe, Dz.rGt, Dz.rGe, Dz.rEq, Dz.rNe, Dz.rEqv, Dz.rInt2, Dz.rMax2, Dz.rMin2, Dz.rI, Dz.rCmp, Dz.rIxU, Dz.rAbs, Dz.rToInt, Dz.rListU, Dz.rSlU, Dz.trk, Dz.rLenU, Dz.rMulU, Dz.rNeg, Dz.startD, Dz.wipeD, Dz.Tr.d, Dz.Sg.put_M, Dz.Sg.put_n, Dz.Sg.put_pv, Dz.Sg.del_M, Dz.Sg.del_n, Dz.Sg.del_pv, Dz.Mm.put_same, Dz.Mm.put_put, Dz.Sg.put_put, Dz.Mm.put_ne, Dz.Mm.del_ne, Dz.rIsi, Dz.tyN, Dz.tyNames, Dz.isiT, Dz.subT, Dz.tyOk, Dz.tyNames, Dz.pyOf, Dz.toPy, Dz.toPys, Dz.Sg.put_mk, Dz.Sg.del_mk, Dz.spend_M, Dz.spend_pv, Dz.spend_n, Dz.spend_spend, Dz.spend_put, Dz.spend_del, Dz.spNext_iff, Dz.asI_lst, Dz.asI_tup, Dz.dFJ, Dz.dJs, Dz.dFmt, Dz.Tr.isNil, Gz.gPlain, Gz.gSeq, Gz.gNx, Gz.gIf, Gz.gYield, Gz.gOut, Gz.gForG, Gz.dGCall, Gz.dListG, Gz.dForG, Gz.GE.at, Dz.dDGet, Dz.rDGet, Dz.dDGet2, Dz.dDIn, Dz.dDSet, Dz.rDSet, Dz.dDF, Dz.dDM, Dz.dD0, Dz.dDc, Dz.rTupU, Dz.dStar, Dz.keyD, Dz.asD, Dz.dExtend, Dz.rExtendD, Dz.dFld, Dz.dSetFld, Dz.dMeth, Dz.dMake, Dz.dDictP, Dz.dDd, Dz.dPairs, Dz.dTab, Dz.dAugS, Dz.dNever, Dz.dIndex, Dz.dIndexT, List.map_cons, List.map_nil, List.length_cons, List.length_nil, List.length_map, List.length_set, List.replicate, Nat.reduceSub, Nat.reduceAdd, List.cons_append, List.nil_append, List.getElem?_cons_zero, List.getElem?_cons_succ, List.set_cons_zero, List.set_cons_succ, if_true, if_false, Bool.false_eq_true, id, Nat.sub_zero, Bool.not_true, Bool.not_false, true_and, and_true, ne_eq, not_false_eq_true, not_true_eq_false, reduceCtorEq, Option.map_some, Option.bind_some, String.reduceBEq, Bool.or_false, Bool.or_true, Bool.false_or, Bool.true_or, Bool.and_true, Bool.and_false, Bool.true_and, Bool.false_and, decide_true, decide_false, List.all_cons, List.all_nil, List.any_cons, List.any_nil, beq_self_eq_true, mb, ma, nab.symm, List.length_map]
        refine ⟨by omega, ih (so.eraseIdx i.toNat) (fo ++ [so[i.toNat]]) _ (by simp; omega) (by simp [List.length_eraseIdx, hi]; omega) (fun c hc => h3 c (List.mem_of_mem_eraseIdx hc)) ?_ ?_ ?_ ?_⟩
        · intro c hc
          rcases List.mem_append.mp hc with hc | hc
          · exact h4 c hc
          · rw [List.mem_singleton.mp hc]; exact h3 _ (List.getElem_mem _)
        · have := ((ov.spend (k := 1)).put (o := .lst ((so.map chr).eraseIdx i.toNat)) ha).put (o := .lst (fo.map chr ++ [chr so[i.toNat]])) hb1
          exact this.mono (by simp; omega)
        · simp only [Sg.put_M, Mm.put_ne nab, Mm.put_same, map_erase]
        · simp [Mm.put]
end Pr

namespace Pr
open PySem PySem.Spec PyProof.Rows L2 Dz
def ino : Tr → List Nat
  | .nil => []
  | .node l a r => ino l ++ a :: ino r
theorem ino_len : ∀ t : Tr, (ino t).length = t.size
  | .nil => rfl
  | .node l a r => by simp only [ino, Tr.size, List.length_append, List.length_cons, ino_len l, ino_len r]; omega
theorem ino_all {p : Nat → Prop} : ∀ {t : Tr}, (∀ c ∈ ino t, p c) → t.all p
  | .nil, _ => trivial
  | .node l a r, h => ⟨ino_all fun c hc => h c (List.mem_append_left _ hc), h a (List.mem_append_right _ List.mem_cons_self), ino_all fun c hc => h c (List.mem_append_right _ (List.mem_cons_of_mem _ hc))⟩
theorem chrs_inj : ∀ {a b : List Nat}, a.map chr = b.map chr → a = b
  | [], [], _ => rfl
  | [], _ :: _, h => by simp at h
  | _ :: _, [], h => by simp at h
  | x :: a, y :: b, h => by
    simp only [List.map_cons, List.cons.injEq] at h
    rw [chr_inj h.1, chrs_inj h.2]
def spGrown (n : Nat) : SpD := fun ws s R _ => ∃ (p : Addr) (z way : Int) (ls : List Nat), ws = [.ref p, .int z, .int way, .lst (ls.map chr)] ∧ Dk s p ∧ 0 ≤ way ∧ way ≤ 4 ∧ z = ls.length ∧ ls.length < n ∧ ls.length ≤ s.n ∧ ls.length < 10000 ∧ ∀ t : Tr, ino t = ls → R t.d (spend s ls.length)
theorem spGrown_iff {n : Nat} {p : Addr} {z way : Int} {ls : List Nat} {s : Sg} {R : KD} {E : XD} : spGrown n [.ref p, .int z, .int way, .lst (ls.map chr)] s R E ↔ Dk s p ∧ 0 ≤ way ∧ way ≤ 4 ∧ z = ls.length ∧ ls.length < n ∧ ls.length ≤ s.n ∧ ls.length < 10000 ∧ ∀ t : Tr, ino t = ls → R t.d (spend s ls.length) := by
  constructor
  · rintro ⟨p', z', w', ls', e, h⟩
    simp only [List.cons.injEq, D.ref.injEq, D.int.injEq, D.lst.injEq, and_true] at e
    obtain ⟨rfl, rfl, rfl, e⟩ := e
    rw [chrs_inj e]
    exact h
  · exact fun h => ⟨p, z, way, ls, rfl, h⟩
theorem e_law_grown (n : Nat) : ∀ ws s R, spGrown (n + 1) ws s R X0 → ws.length = 4 ∧ t_law_grown spNext (spGrown n) { nx := fun _ s' => Lw R .non s', rt := Lw R } (Dz.startD N_law_grown ws) s := by
  rintro ws s R ⟨p, z, way, ls, rfl, hp, hw0, hw1, rfl, hn, hsn, hk, hR⟩
  refine ⟨rfl, ?_⟩
  simp only [Dz.dSeq, Dz.dIf, Dz.dB, Dz.dOp, Dz.dUn, Dz.dVar, Dz.dC, Dz.dRet, Dz.dRetN, Dz.dNx, Dz.dBrk, Dz.dCnt, Dz.dAsg, Dz.dSet, Dz.dPar, Dz.dPar3, Dz.dgT, Dz.dgTt, Dz.dgCons, Dz.dgNil, Dz.dgN, Dz.dCall, Dz.dCons, Dz.dNil, Dz.dTup, Dz.dCB, Dz.dCN, Dz.dF, Dz.dM, Dz.dSz, Dz.dExpr, Dz.dNot, Dz.dAnd, Dz.dOr, Dz.dAndV, Dz.dOrV, Dz.dNotV, Dz.dIfE, Dz.dChain, Dz.dFrz, Dz.dIt, Dz.dRng1, Dz.dRng2, Dz.dSl, Dz.dNoPart, Dz.dPart, Dz.dCat, Dz.dRep, Dz.dLc, Dz.dFor, Dz.dAppend, Dz.dPop, Dz.dPopAt, Dz.rPopAtD, Dz.dSetIx, Dz.dYes, Dz.dRev, Dz.asI, Dz.asQ, Dz.asL, Dz.rIsN, Dz.rIs, Dz.rIsNot, Dz.isNon_d, Dz.isNon_non, Dz.isNon_tup, Dz.isNon_lst, Dz.isNon_str, Dz.isNon_int, Dz.isNon_bl, Dz.isNon_ref, Dz.isNon_dic, Dz.isNon_ty, Dz.rAddU, Dz.rSub, Dz.rMod, Dz.rDiv, Dz.rPow, Dz.rLt, Dz.rLe, Dz.rGt, Dz.rGe, Dz.rEq, Dz.rNe, Dz.rEqv, Dz.rInt2, Dz.rMax2, Dz.rMin2, Dz.rI, Dz.rCmp, Dz.rIxU, Dz.rAbs, Dz.rToInt, Dz.rListU, Dz.rSlU, Dz.trk, Dz.rLenU, Dz.rMulU, Dz.rNeg, Dz.startD, Dz.wipeD, Dz.Tr.d, Dz.Sg.put_M, Dz.Sg.put_n, Dz.Sg.put_pv, Dz.Sg.del_M, Dz.Sg.del_n, Dz.Sg.del_pv, Dz.Mm.put_same, Dz.Mm.put_put, Dz.Sg.put_put, Dz.Mm.put_ne, Dz.Mm.del_ne, Dz.rIsi, Dz.tyN, Dz.tyNames, Dz.isiT, Dz.subT, Dz.tyOk, Dz.tyNames, Dz.pyOf, Dz.toPy, Dz.toPys, Dz.Sg.put_mk, Dz.Sg.del_mk, Dz.spend_M, Dz.spend_pv, Dz.spend_n, Dz.spend_spend, Dz.spend_put, Dz.spend_del, Dz.spNext_iff, Dz.asI_lst, Dz.asI_tup, Dz.dFJ, Dz.dJs, Dz.dFmt, Dz.Tr.isNil, Gz.gPlain, Gz.gSeq, Gz.gNx, Gz.gIf, Gz.gYield, Gz.gOut, Gz.gForG, Gz.dGCall, Gz.dListG, Gz.dForG, Gz.GE.at, Dz.dDGet, Dz.rDGet, Dz.dDGet2, Dz.dDIn, Dz.dDSet, Dz.rDSet, Dz.dDF, Dz.dDM, Dz.dD0, Dz.dDc, Dz.rTupU, Dz.dStar, Dz.keyD, Dz.asD, Dz.dExtend, Dz.rExtendD, Dz.dFld, Dz.dSetFld, Dz.dMeth, Dz.dMake, Dz.dDictP, Dz.dDd, Dz.dPairs, Dz.dTab, Dz.dAugS, Dz.dNever, Dz.dIndex, Dz.dIndexT, List.map_cons, List.map_nil, List.length_cons, List.length_nil, List.length_map, List.length_set, List.replicate, Nat.reduceSub, Nat.reduceAdd, List.cons_append, List.nil_append, List.getElem?_cons_zero, List.getElem?_cons_succ, List.set_cons_zero, List.set_cons_succ, if_true, if_false, Bool.false_eq_true, id, Nat.sub_zero, Bool.not_true, Bool.not_false, true_and, and_true, ne_eq, not_false_eq_true, not_true_eq_false, reduceCtorEq, Option.map_some, Option.bind_some, String.reduceBEq, Bool.or_false, Bool.or_true, Bool.false_or, Bool.true_or, Bool.and_true, Bool.and_false, Bool.true_and, Bool.false_and, decide_true, decide_false, List.all_cons, List.all_nil, List.any_cons, List.any_nil, beq_self_eq_true, t_law_grown]
  split
  · rename_i h
    have e : ls = [] := by cases ls with
      | nil => rfl
      | cons _ _ => simp at h; omega
    subst e
    exact .of (hR .nil rfl)
  · rename_i h
    have hl : 0 < ls.length := by
      cases ls with
      | nil => exact absurd rfl h
      | cons _ _ => simp
    refine ⟨hp, by omega, by omega, by omega, fun r r0 r1 => ?_⟩
    have key : ∃ m : Nat, L2.atI [D.int r, D.int ((ls.length : Int) - 1), D.int 0, D.int (((ls.length : Int) - 1) * ((ls.length : Int) % 2)), D.int (((ls.length : Int) - 1) / 2)] way = some (.int m) ∧ m < ls.length := by
      have : way = 0 ∨ way = 1 ∨ way = 2 ∨ way = 3 ∨ way = 4 := by omega
      rcases this with rfl | rfl | rfl | rfl | rfl
      · exact ⟨r.toNat, by rw [show ((r.toNat : Nat) : Int) = r by omega]; rfl, by omega⟩
      · exact ⟨ls.length - 1, by rw [show ((ls.length - 1 : Nat) : Int) = (ls.length : Int) - 1 by omega]; rfl, by omega⟩
      · exact ⟨0, rfl, hl⟩
      · refine ⟨(ls.length - 1) * (ls.length % 2), ?_, ?_⟩
        · rw [show (((ls.length - 1) * (ls.length % 2) : Nat) : Int) = ((ls.length : Int) - 1) * ((ls.length : Int) % 2) by
            rw [Int.natCast_mul, Int.natCast_emod, show ((ls.length - 1 : Nat) : Int) = (ls.length : Int) - 1 by omega]; rfl]
          rfl
        · have : ls.length % 2 = 0 ∨ ls.length % 2 = 1 := by omega
          rcases this with e | e <;> rw [e] <;> omega
      · refine ⟨(ls.length - 1) / 2, ?_, by omega⟩
        rw [show (((ls.length - 1) / 2 : Nat) : Int) = ((ls.length : Int) - 1) / 2 by omega]
        rfl
    obtain ⟨m, e1, hm⟩ := key
    rw [e1]
    refine ⟨by decide, cmul_r (by omega) (by omega), ⟨by decide, by decide⟩, by decide, ?_⟩
    dsimp only
    rw [cut_to (by omega), cut_from (by omega), ← List.map_take, ← List.map_drop, show (m : Int).toNat = m by omega, show ((m : Int) + 1).toNat = m + 1 by omega, spGrown_iff, List.length_take]
    have hmin : min m ls.length = m := by omega
    refine ⟨hp, hw0, hw1, by omega, by omega, by rw [spend_n]; omega, by omega, fun t1 h1 => ?_⟩
    obtain ⟨c, e2, e3, e4⟩ := atI_map (f := chr) (xs := ls) (i := m) (by omega) (by omega)
    rw [e4]
    dsimp only
    rw [spGrown_iff, List.length_drop]
    refine ⟨hp, hw0, hw1, by omega, by omega, by simp only [spend_n]; omega, by omega, fun t2 h2 => ⟨by decide, ?_⟩⟩
    rw [spend_spend, spend_spend, hmin, show 1 + (m + (ls.length - (m + 1))) = ls.length by omega]
    refine .of (hR (.node t1 c t2) ?_)
    rw [ino, h1, h2]
    rw [show (m : Int).toNat = m by omega] at e2
    conv => rhs; rw [← List.take_append_drop m ls]
    congr 1
    rw [List.drop_eq_getElem_cons hm]
    congr 1
    rw [List.getElem?_eq_getElem hm] at e2
    exact (Option.some.inj e2).symm
def spTree (lim : Nat) : SpD := fun ws s R _ => ∃ p : Addr, ws = [.ref p, .int lim] ∧ Dk s p ∧ 100 ≤ s.n ∧ ∀ t : Tr, 0 < t.size → t.size ≤ lim → t.all Lt → R t.d (spend s 100)
theorem e_law_tree {lim : Nat} (h0 : 0 < lim) (h1 : lim ≤ 26) : ∀ ws s R, spTree lim ws s R X0 → ws.length = 2 ∧ t_law_tree spNext (spGrown 30) spLetters { nx := fun _ s' => Lw R .non s', rt := Lw R } (Dz.startD N_law_tree ws) s := by
  rintro ws s R ⟨p, rfl, hp, hn, hR⟩
  refine ⟨rfl, ?_⟩
  simp only [Dz.dSeq, Dz.dIf, Dz.dB, Dz.dOp, Dz.dUn, Dz.dVar, Dz.dC, Dz.dRet, Dz.dRetN, Dz.dNx, Dz.dBrk, Dz.dCnt, Dz.dAsg, Dz.dSet, Dz.dPar, Dz.dPar3, Dz.dgT, Dz.dgTt, Dz.dgCons, Dz.dgNil, Dz.dgN, Dz.dCall, Dz.dCons, Dz.dNil, Dz.dTup, Dz.dCB, Dz.dCN, Dz.dF, Dz.dM, Dz.dSz, Dz.dExpr, Dz.dNot, Dz.dAnd, Dz.dOr, Dz.dAndV, Dz.dOrV, Dz.dNotV, Dz.dIfE, Dz.dChain, Dz.dFrz, Dz.dIt, Dz.dRng1, Dz.dRng2, Dz.dSl, Dz.dNoPart, Dz.dPart, Dz.dCat, Dz.dRep, Dz.dLc, Dz.dFor, Dz.dAppend, Dz.dPop, Dz.dPopAt, Dz.rPopAtD, Dz.dSetIx, Dz.dYes, Dz.dRev, Dz.asI, Dz.asQ, Dz.asL, Dz.rIsN, Dz.rIs, Dz.rIsNot, Dz.isNon_d, Dz.isNon_non, Dz.isNon_tup, Dz.isNon_lst, Dz.isNon_str, Dz.isNon_int, Dz.isNon_bl, Dz.isNon_ref, Dz.isNon_dic, Dz.isNon_ty, Dz.rAddU, Dz.rSub, Dz.rMod, Dz.rDiv, Dz.rPow, Dz.rLt, Dz.rLe, Dz.rGt, Dz.rGe, Dz.rEq, Dz.rNe, Dz.rEqv, Dz.rInt2, Dz.rMax2, Dz.rMin2, Dz.rI, Dz.rCmp, Dz.rIxU, Dz.rAbs, Dz.rToInt, Dz.rListU, Dz.rSlU, Dz.trk, Dz.rLenU, Dz.rMulU, Dz.rNeg, Dz.startD, Dz.wipeD, Dz.Tr.d, Dz.Sg.put_M, Dz.Sg.put_n, Dz.Sg.put_pv, Dz.Sg.del_M, Dz.Sg.del_n, Dz.Sg.del_pv, Dz.Mm.put_same, Dz.Mm.put_put, Dz.Sg.put_put, Dz.Mm.put_ne, Dz.Mm.del_ne, Dz.rIsi, Dz.tyN, Dz.tyNames, Dz.isiT, Dz.subT, Dz.tyOk, Dz.tyNames, Dz.pyOf, Dz.toPy, Dz.toPys, Dz.Sg.put_mk, Dz.Sg.del_mk, Dz.spend_M, Dz.spend_pv, Dz.spend_n, Dz.spend_spend, Dz.spend_put, Dz.spend_del, Dz.spNext_iff, Dz.asI_lst, Dz.asI_tup, Dz.dFJ, Dz.dJs, Dz.dFmt, Dz.Tr.isNil, Gz.gPlain, Gz.gSeq, Gz.gNx, Gz.gIf, Gz.gYield, Gz.gOut, Gz.gForG, Gz.dGCall, Gz.dListG, Gz.dForG, Gz.GE.at, Dz.dDGet, Dz.rDGet, Dz.dDGet2, Dz.dDIn, Dz.dDSet, Dz.rDSet, Dz.dDF, Dz.dDM, Dz.dD0, Dz.dDc, Dz.rTupU, Dz.dStar, Dz.keyD, Dz.asD, Dz.dExtend, Dz.rExtendD, Dz.dFld, Dz.dSetFld, Dz.dMeth, Dz.dMake, Dz.dDictP, Dz.dDd, Dz.dPairs, Dz.dTab, Dz.dAugS, Dz.dNever, Dz.dIndex, Dz.dIndexT, List.map_cons, List.map_nil, List.length_cons, List.length_nil, List.length_map, List.length_set, List.replicate, Nat.reduceSub, Nat.reduceAdd, List.cons_append, List.nil_append, List.getElem?_cons_zero, List.getElem?_cons_succ, List.set_cons_zero, List.set_cons_succ, if_true, if_false, Bool.false_eq_true, id, Nat.sub_zero, Bool.not_true, Bool.not_false, true_and, and_true, ne_eq, not_false_eq_true, not_true_eq_false, reduceCtorEq, Option.map_some, Option.bind_some, String.reduceBEq, Bool.or_false, Bool.or_true, Bool.false_or, Bool.true_or, Bool.and_true, Bool.and_false, Bool.true_and, Bool.false_and, decide_true, decide_false, List.all_cons, List.all_nil, List.any_cons, List.any_nil, beq_self_eq_true, t_law_tree]
  refine ⟨hp, by omega, by omega, by omega, fun r r0 r1 => ⟨by decide, hp, by decide, by decide, by omega, fun i i0 i1 => ?_⟩⟩
  have key : ∃ m : Int, L2.atI [D.int 0, D.int 0, D.int 0, D.int 1, D.int 2, D.int 3, D.int 4] i = some (.int m) ∧ 0 ≤ m ∧ m ≤ 4 := by
    have : i = 0 ∨ i = 1 ∨ i = 2 ∨ i = 3 ∨ i = 4 ∨ i = 5 ∨ i = 6 := by omega
    rcases this with rfl | rfl | rfl | rfl | rfl | rfl | rfl <;> exact ⟨_, rfl, by decide, by decide⟩
  obtain ⟨m, e1, e2, e3⟩ := key
  rw [e1]
  simp only [Dz.dSeq, Dz.dIf, Dz.dB, Dz.dOp, Dz.dUn, Dz.dVar, Dz.dC, Dz.dRet, Dz.dRetN, Dz.dNx, Dz.dBrk, Dz.dCnt, Dz.dAsg, Dz.dSet, Dz.dPar, Dz.dPar3, Dz.dgT, Dz.dgTt, Dz.dgCons, Dz.dgNil, Dz.dgN, Dz.dCall, Dz.dCons, Dz.dNil, Dz.dTup, Dz.dCB, Dz.dCN, Dz.dF, Dz.dM, Dz.dSz, Dz.dExpr, Dz.dNot, Dz.dAnd, Dz.dOr, Dz.dAndV, Dz.dOrV, Dz.dNotV, Dz.dIfE, Dz.dChain, Dz.dFrz, Dz.dIt, Dz.dRng1, Dz.dRng2, Dz.dSl, Dz.dNoPart, Dz.dPart, Dz.dCat, Dz.dRep, Dz.dLc, Dz.dFor, Dz.dAppend, Dz.dPop, Dz.dPopAt, Dz.rPopAtD, Dz.dSetIx, Dz.dYes, Dz.dRev, Dz.asI, Dz.asQ, Dz.asL, Dz.rIsN, Dz.rIs, Dz.rIsNot, Dz.isNon_d, Dz.isNon_non, Dz.isNon_tup, Dz.isNon_lst, Dz.isNon_str, Dz.isNon_int, Dz.isNon_bl, Dz.isNon_ref, Dz.isNon_dic, Dz.isNon_ty, Dz.rAddU, Dz.rSub, Dz.rMod, Dz.rDiv, Dz.rPow, Dz.rLt, Dz.rLe, Dz.rGt, Dz.rGe, Dz.rEq, Dz.rNe, Dz.rEqv, Dz.rInt2, Dz.rMax2, Dz.rMin2, Dz.rI, Dz.rCmp, Dz.rIxU, Dz.rAbs, Dz.rToInt, Dz.rListU, Dz.rSlU, Dz.trk, Dz.rLenU, Dz.rMulU, Dz.rNeg, Dz.startD, Dz.wipeD, Dz.Tr.d, Dz.Sg.put_M, Dz.Sg.put_n, Dz.Sg.put_pv, Dz.Sg.del_M, Dz.Sg.del_n, Dz.Sg.del_pv, Dz.Mm.put_same, Dz.Mm.put_put, Dz.Sg.put_put, Dz.Mm.put_ne, Dz.Mm.del_ne, Dz.rIsi, Dz.tyN, Dz.tyNames, Dz.isiT, Dz.subT, Dz.tyOk, Dz.tyNames, Dz.pyOf, Dz.toPy, Dz.toPys, Dz.Sg.put_mk, Dz.Sg.del_mk, Dz.spend_M, Dz.spend_pv, Dz.spend_n, Dz.spend_spend, Dz.spend_put, Dz.spend_del, Dz.spNext_iff, Dz.asI_lst, Dz.asI_tup, Dz.dFJ, Dz.dJs, Dz.dFmt, Dz.Tr.isNil, Gz.gPlain, Gz.gSeq, Gz.gNx, Gz.gIf, Gz.gYield, Gz.gOut, Gz.gForG, Gz.dGCall, Gz.dListG, Gz.dForG, Gz.GE.at, Dz.dDGet, Dz.rDGet, Dz.dDGet2, Dz.dDIn, Dz.dDSet, Dz.rDSet, Dz.dDF, Dz.dDM, Dz.dD0, Dz.dDc, Dz.rTupU, Dz.dStar, Dz.keyD, Dz.asD, Dz.dExtend, Dz.rExtendD, Dz.dFld, Dz.dSetFld, Dz.dMeth, Dz.dMake, Dz.dDictP, Dz.dDd, Dz.dPairs, Dz.dTab, Dz.dAugS, Dz.dNever, Dz.dIndex, Dz.dIndexT, List.map_cons, List.map_nil, List.length_cons, List.length_nil, List.length_map, List.length_set, List.replicate, Nat.reduceSub, Nat.reduceAdd, List.cons_append, List.nil_append, List.getElem?_cons_zero, List.getElem?_cons_succ, List.set_cons_zero, List.set_cons_succ, if_true, if_false, Bool.false_eq_true, id, Nat.sub_zero, Bool.not_true, Bool.not_false, true_and, and_true, ne_eq, not_false_eq_true, not_true_eq_false, reduceCtorEq, Option.map_some, Option.bind_some, String.reduceBEq, Bool.or_false, Bool.or_true, Bool.false_or, Bool.true_or, Bool.and_true, Bool.and_false, Bool.true_and, Bool.false_and, decide_true, decide_false, List.all_cons, List.all_nil, List.any_cons, List.any_nil, beq_self_eq_true]
  refine ⟨p, r.toNat + 1, by rw [show ((r.toNat + 1 : Nat) : Int) = 1 + r by omega], hp, by omega, by simp only [spend_n]; omega, fun ls hl hc => ?_⟩
  dsimp only
  rw [spGrown_iff]
  refine ⟨hp, e2, e3, by omega, by omega, by simp only [spend_n]; omega, by omega, fun t ht => ?_⟩
  rw [spend_spend, spend_spend]
  have hz := ino_len t
  rw [ht] at hz
  exact .more (by omega) (hR t (by omega) (by omega) (ino_all fun c hc' => hc c (ht ▸ hc')))
end Pr

namespace Pr
open PySem PySem.Spec PyProof.Rows L2 Dz
def spSame (n : Nat) : SpD := fun ws s R _ => ∃ w m, ws = [w, w] ∧ fit w m ∧ m < n ∧ m ≤ 64 ∧ R (.bl true) s
theorem e_law_same (n : Nat) : ∀ ws s R, spSame (n + 1) ws s R X0 → ws.length = 2 ∧ t_law_same (spSame n) { nx := fun _ s' => Lw R .non s', rt := Lw R } (Dz.startD N_law_same ws) s := by
  rintro ws s R ⟨w, m, rfl, hf, hm, h6, hR⟩
  refine ⟨rfl, ?_⟩
  cases w with
  | non =>
    simp only [Dz.dSeq, Dz.dIf, Dz.dB, Dz.dOp, Dz.dUn, Dz.dVar, Dz.dC, Dz.dRet, Dz.dRetN, Dz.dNx, Dz.dBrk, Dz.dCnt, Dz.dAsg, Dz.dSet, Dz.dPar, Dz.dPar3, Dz.dgT, Dz.dgTt, Dz.dgCons, Dz.dgNil, Dz.dgN, Dz.dCall, Dz.dCons, Dz.dNil, Dz.dTup, Dz.dCB, Dz.dCN, Dz.dF, Dz.dM, Dz.dSz, Dz.dExpr, Dz.dNot, Dz.dAnd, Dz.dOr, Dz.dAndV, Dz.dOrV, Dz.dNotV, Dz.dIfE, Dz.dChain, Dz.dFrz, Dz.dIt, Dz.dRng1, Dz.dRng2, Dz.dSl, Dz.dNoPart, Dz.dPart, Dz.dCat, Dz.dRep, Dz.dLc, Dz.dFor, Dz.dAppend, Dz.dPop, Dz.dPopAt, Dz.rPopAtD, Dz.dSetIx, Dz.dYes, Dz.dRev, Dz.asI, Dz.asQ, Dz.asL, Dz.rIsN, Dz.rIs, Dz.rIsNot, Dz.isNon_d, Dz.isNon_non, Dz.isNon_tup, Dz.isNon_lst, Dz.isNon_str, Dz.isNon_int, Dz.isNon_bl, Dz.isNon_ref, Dz.isNon_dic, Dz.isNon_ty, Dz.rAddU, Dz.rSub, Dz.rMod, Dz.rDiv, Dz.rPow, Dz.rLt, Dz.rLe, Dz.rGt, Dz.rGe, Dz.rEq, Dz.rNe, Dz.rEqv, Dz.rInt2, Dz.rMax2, Dz.rMin2, Dz.rI, Dz.rCmp, Dz.rIxU, Dz.rAbs, Dz.rToInt, Dz.rListU, Dz.rSlU, Dz.trk, Dz.rLenU, Dz.rMulU, Dz.rNeg, Dz.startD, Dz.wipeD, Dz.Tr.d, Dz.Sg.put_M, Dz.Sg.put_n, Dz.Sg.put_pv, Dz.Sg.del_M, Dz.Sg.del_n, Dz.Sg.del_pv, Dz.Mm.put_same, Dz.Mm.put_put, Dz.Sg.put_put, Dz.Mm.put_ne, Dz.Mm.del_ne, Dz.rIsi, Dz.tyN, Dz.tyNames, Dz.isiT, Dz.subT, Dz.tyOk, Dz.tyNames, Dz.pyOf, Dz.toPy, Dz.toPys, Dz.Sg.put_mk, Dz.Sg.del_mk, Dz.spend_M, Dz.spend_pv, Dz.spend_n, Dz.spend_spend, Dz.spend_put, Dz.spend_del, Dz.spNext_iff, Dz.asI_lst, Dz.asI_tup, Dz.dFJ, Dz.dJs, Dz.dFmt, Dz.Tr.isNil, Gz.gPlain, Gz.gSeq, Gz.gNx, Gz.gIf, Gz.gYield, Gz.gOut, Gz.gForG, Gz.dGCall, Gz.dListG, Gz.dForG, Gz.GE.at, Dz.dDGet, Dz.rDGet, Dz.dDGet2, Dz.dDIn, Dz.dDSet, Dz.rDSet, Dz.dDF, Dz.dDM, Dz.dD0, Dz.dDc, Dz.rTupU, Dz.dStar, Dz.keyD, Dz.asD, Dz.dExtend, Dz.rExtendD, Dz.dFld, Dz.dSetFld, Dz.dMeth, Dz.dMake, Dz.dDictP, Dz.dDd, Dz.dPairs, Dz.dTab, Dz.dAugS, Dz.dNever, Dz.dIndex, Dz.dIndexT, List.map_cons, List.map_nil, List.length_cons, List.length_nil, List.length_map, List.length_set, List.replicate, Nat.reduceSub, Nat.reduceAdd, List.cons_append, List.nil_append, List.getElem?_cons_zero, List.getElem?_cons_succ, List.set_cons_zero, List.set_cons_succ, if_true, if_false, Bool.false_eq_true, id, Nat.sub_zero, Bool.not_true, Bool.not_false, true_and, and_true, ne_eq, not_false_eq_true, not_true_eq_false, reduceCtorEq, Option.map_some, Option.bind_some, String.reduceBEq, Bool.or_false, Bool.or_true, Bool.false_or, Bool.true_or, Bool.and_true, Bool.and_false, Bool.true_and, Bool.false_and, decide_true, decide_false, List.all_cons, List.all_nil, List.any_cons, List.any_nil, beq_self_eq_true, t_law_same]
    exact ⟨by decide, .of hR⟩
  | bl b =>
    simp only [Dz.dSeq, Dz.dIf, Dz.dB, Dz.dOp, Dz.dUn, Dz.dVar, Dz.dC, Dz.dRet, Dz.dRetN, Dz.dNx, Dz.dBrk, Dz.dCnt, Dz.dAsg, Dz.dSet, Dz.dPar, Dz.dPar3, Dz.dgT, Dz.dgTt, Dz.dgCons, Dz.dgNil, Dz.dgN, Dz.dCall, Dz.dCons, Dz.dNil, Dz.dTup, Dz.dCB, Dz.dCN, Dz.dF, Dz.dM, Dz.dSz, Dz.dExpr, Dz.dNot, Dz.dAnd, Dz.dOr, Dz.dAndV, Dz.dOrV, Dz.dNotV, Dz.dIfE, Dz.dChain, Dz.dFrz, Dz.dIt, Dz.dRng1, Dz.dRng2, Dz.dSl, Dz.dNoPart, Dz.dPart, Dz.dCat, Dz.dRep, Dz.dLc, Dz.dFor, Dz.dAppend, Dz.dPop, Dz.dPopAt, Dz.rPopAtD, Dz.dSetIx, Dz.dYes, Dz.dRev, Dz.asI, Dz.asQ, Dz.asL, Dz.rIsN, Dz.rIs, Dz.rIsNot, Dz.isNon_d, Dz.isNon_non, Dz.isNon_tup, Dz.isNon_lst, Dz.isNon_str, Dz.isNon_int, Dz.isNon_bl, Dz.isNon_ref, Dz.isNon_dic, Dz.isNon_ty, Dz.rAddU, Dz.rSub, Dz.rMod, Dz.rDiv, Dz.rPow, Dz.rLt, Dz.rLe, Dz.rGt, Dz.rGe, Dz.rEq, Dz.rNe, Dz.rEqv, Dz.rInt2, Dz.rMax2, Dz.rMin2, Dz.rI, Dz.rCmp, Dz.rIxU, Dz.rAbs, Dz.rToInt, Dz.rListU, Dz.rSlU, Dz.trk, Dz.rLenU, Dz.rMulU, Dz.rNeg, Dz.startD, Dz.wipeD, Dz.Tr.d, Dz.Sg.put_M, Dz.Sg.put_n, Dz.Sg.put_pv, Dz.Sg.del_M, Dz.Sg.del_n, Dz.Sg.del_pv, Dz.Mm.put_same, Dz.Mm.put_put, Dz.Sg.put_put, Dz.Mm.put_ne, Dz.Mm.del_ne, Dz.rIsi, Dz.tyN, Dz.tyNames, Dz.isiT, Dz.subT, Dz.tyOk, Dz.tyNames, Dz.pyOf, Dz.toPy, Dz.toPys, Dz.Sg.put_mk, Dz.Sg.del_mk, Dz.spend_M, Dz.spend_pv, Dz.spend_n, Dz.spend_spend, Dz.spend_put, Dz.spend_del, Dz.spNext_iff, Dz.asI_lst, Dz.asI_tup, Dz.dFJ, Dz.dJs, Dz.dFmt, Dz.Tr.isNil, Gz.gPlain, Gz.gSeq, Gz.gNx, Gz.gIf, Gz.gYield, Gz.gOut, Gz.gForG, Gz.dGCall, Gz.dListG, Gz.dForG, Gz.GE.at, Dz.dDGet, Dz.rDGet, Dz.dDGet2, Dz.dDIn, Dz.dDSet, Dz.rDSet, Dz.dDF, Dz.dDM, Dz.dD0, Dz.dDc, Dz.rTupU, Dz.dStar, Dz.keyD, Dz.asD, Dz.dExtend, Dz.rExtendD, Dz.dFld, Dz.dSetFld, Dz.dMeth, Dz.dMake, Dz.dDictP, Dz.dDd, Dz.dPairs, Dz.dTab, Dz.dAugS, Dz.dNever, Dz.dIndex, Dz.dIndexT, List.map_cons, List.map_nil, List.length_cons, List.length_nil, List.length_map, List.length_set, List.replicate, Nat.reduceSub, Nat.reduceAdd, List.cons_append, List.nil_append, List.getElem?_cons_zero, List.getElem?_cons_succ, List.set_cons_zero, List.set_cons_succ, if_true, if_false, Bool.false_eq_true, id, Nat.sub_zero, Bool.not_true, Bool.not_false, true_and, and_true, ne_eq, not_false_eq_true, not_true_eq_false, reduceCtorEq, Option.map_some, Option.bind_some, String.reduceBEq, Bool.or_false, Bool.or_true, Bool.false_or, Bool.true_or, Bool.and_true, Bool.and_false, Bool.true_and, Bool.false_and, decide_true, decide_false, List.all_cons, List.all_nil, List.any_cons, List.any_nil, beq_self_eq_true, t_law_same]
    exact ⟨by decide, .of hR⟩
  | int i =>
    simp only [Dz.dSeq, Dz.dIf, Dz.dB, Dz.dOp, Dz.dUn, Dz.dVar, Dz.dC, Dz.dRet, Dz.dRetN, Dz.dNx, Dz.dBrk, Dz.dCnt, Dz.dAsg, Dz.dSet, Dz.dPar, Dz.dPar3, Dz.dgT, Dz.dgTt, Dz.dgCons, Dz.dgNil, Dz.dgN, Dz.dCall, Dz.dCons, Dz.dNil, Dz.dTup, Dz.dCB, Dz.dCN, Dz.dF, Dz.dM, Dz.dSz, Dz.dExpr, Dz.dNot, Dz.dAnd, Dz.dOr, Dz.dAndV, Dz.dOrV, Dz.dNotV, Dz.dIfE, Dz.dChain, Dz.dFrz, Dz.dIt, Dz.dRng1, Dz.dRng2, Dz.dSl, Dz.dNoPart, Dz.dPart, Dz.dCat, Dz.dRep, Dz.dLc, Dz.dFor, Dz.dAppend, Dz.dPop, Dz.dPopAt, Dz.rPopAtD, Dz.dSetIx, Dz.dYes, Dz.dRev, Dz.asI, Dz.asQ, Dz.asL, Dz.rIsN, Dz.rIs, Dz.rIsNot, Dz.isNon_d, Dz.isNon_non, Dz.isNon_tup, Dz.isNon_lst, Dz.isNon_str, Dz.isNon_int, Dz.isNon_bl, Dz.isNon_ref, Dz.isNon_dic, Dz.isNon_ty, Dz.rAddU, Dz.rSub, Dz.rMod, Dz.rDiv, Dz.rPow, Dz.rLt, Dz.rLe, Dz.rGt, Dz.rGe, Dz.rEq, Dz.rNe, Dz.rEqv, Dz.rInt2, Dz.rMax2, Dz.rMin2, Dz.rI, Dz.rCmp, Dz.rIxU, Dz.rAbs, Dz.rToInt, Dz.rListU, Dz.rSlU, Dz.trk, Dz.rLenU, Dz.rMulU, Dz.rNeg, Dz.startD, Dz.wipeD, Dz.Tr.d, Dz.Sg.put_M, Dz.Sg.put_n, Dz.Sg.put_pv, Dz.Sg.del_M, Dz.Sg.del_n, Dz.Sg.del_pv, Dz.Mm.put_same, Dz.Mm.put_put, Dz.Sg.put_put, Dz.Mm.put_ne, Dz.Mm.del_ne, Dz.rIsi, Dz.tyN, Dz.tyNames, Dz.isiT, Dz.subT, Dz.tyOk, Dz.tyNames, Dz.pyOf, Dz.toPy, Dz.toPys, Dz.Sg.put_mk, Dz.Sg.del_mk, Dz.spend_M, Dz.spend_pv, Dz.spend_n, Dz.spend_spend, Dz.spend_put, Dz.spend_del, Dz.spNext_iff, Dz.asI_lst, Dz.asI_tup, Dz.dFJ, Dz.dJs, Dz.dFmt, Dz.Tr.isNil, Gz.gPlain, Gz.gSeq, Gz.gNx, Gz.gIf, Gz.gYield, Gz.gOut, Gz.gForG, Gz.dGCall, Gz.dListG, Gz.dForG, Gz.GE.at, Dz.dDGet, Dz.rDGet, Dz.dDGet2, Dz.dDIn, Dz.dDSet, Dz.rDSet, Dz.dDF, Dz.dDM, Dz.dD0, Dz.dDc, Dz.rTupU, Dz.dStar, Dz.keyD, Dz.asD, Dz.dExtend, Dz.rExtendD, Dz.dFld, Dz.dSetFld, Dz.dMeth, Dz.dMake, Dz.dDictP, Dz.dDd, Dz.dPairs, Dz.dTab, Dz.dAugS, Dz.dNever, Dz.dIndex, Dz.dIndexT, List.map_cons, List.map_nil, List.length_cons, List.length_nil, List.length_map, List.length_set, List.replicate, Nat.reduceSub, Nat.reduceAdd, List.cons_append, List.nil_append, List.getElem?_cons_zero, List.getElem?_cons_succ, List.set_cons_zero, List.set_cons_succ, if_true, if_false, Bool.false_eq_true, id, Nat.sub_zero, Bool.not_true, Bool.not_false, true_and, and_true, ne_eq, not_false_eq_true, not_true_eq_false, reduceCtorEq, Option.map_some, Option.bind_some, String.reduceBEq, Bool.or_false, Bool.or_true, Bool.false_or, Bool.true_or, Bool.and_true, Bool.and_false, Bool.true_and, Bool.false_and, decide_true, decide_false, List.all_cons, List.all_nil, List.any_cons, List.any_nil, beq_self_eq_true, t_law_same]
    exact ⟨by decide, .of hR⟩
  | str i =>
    simp only [Dz.dSeq, Dz.dIf, Dz.dB, Dz.dOp, Dz.dUn, Dz.dVar, Dz.dC, Dz.dRet, Dz.dRetN, Dz.dNx, Dz.dBrk, Dz.dCnt, Dz.dAsg, Dz.dSet, Dz.dPar, Dz.dPar3, Dz.dgT, Dz.dgTt, Dz.dgCons, Dz.dgNil, Dz.dgN, Dz.dCall, Dz.dCons, Dz.dNil, Dz.dTup, Dz.dCB, Dz.dCN, Dz.dF, Dz.dM, Dz.dSz, Dz.dExpr, Dz.dNot, Dz.dAnd, Dz.dOr, Dz.dAndV, Dz.dOrV, Dz.dNotV, Dz.dIfE, Dz.dChain, Dz.dFrz, Dz.dIt, Dz.dRng1, Dz.dRng2, Dz.dSl, Dz.dNoPart, Dz.dPart, Dz.dCat, Dz.dRep, Dz.dLc, Dz.dFor, Dz.dAppend, Dz.dPop, Dz.dPopAt, Dz.rPopAtD, Dz.dSetIx, Dz.dYes, Dz.dRev, Dz.asI, Dz.asQ, Dz.asL, Dz.rIsN, Dz.rIs, Dz.rIsNot, Dz.isNon_d, Dz.isNon_non, Dz.isNon_tup, Dz.isNon_lst, Dz.isNon_str, Dz.isNon_int, Dz.isNon_bl, Dz.isNon_ref, Dz.isNon_dic, Dz.isNon_ty, Dz.rAddU, Dz.rSub, Dz.rMod, Dz.rDiv, Dz.rPow, Dz.rLt, Dz.rLe, Dz.rGt, Dz.rGe, Dz.rEq, Dz.rNe, Dz.rEqv, Dz.rInt2, Dz.rMax2, Dz.rMin2, Dz.rI, Dz.rCmp, Dz.rIxU, Dz.rAbs, Dz.rToInt, Dz.rListU, Dz.rSlU, Dz.trk, Dz.rLenU, Dz.rMulU, Dz.rNeg, Dz.startD, Dz.wipeD, Dz.Tr.d, Dz.Sg.put_M, Dz.Sg.put_n, Dz.Sg.put_pv, Dz.Sg.del_M, Dz.Sg.del_n, Dz.Sg.del_pv, Dz.Mm.put_same, Dz.Mm.put_put, Dz.Sg.put_put, Dz.Mm.put_ne, Dz.Mm.del_ne, Dz.rIsi, Dz.tyN, Dz.tyNames, Dz.isiT, Dz.subT, Dz.tyOk, Dz.tyNames, Dz.pyOf, Dz.toPy, Dz.toPys, Dz.Sg.put_mk, Dz.Sg.del_mk, Dz.spend_M, Dz.spend_pv, Dz.spend_n, Dz.spend_spend, Dz.spend_put, Dz.spend_del, Dz.spNext_iff, Dz.asI_lst, Dz.asI_tup, Dz.dFJ, Dz.dJs, Dz.dFmt, Dz.Tr.isNil, Gz.gPlain, Gz.gSeq, Gz.gNx, Gz.gIf, Gz.gYield, Gz.gOut, Gz.gForG, Gz.dGCall, Gz.dListG, Gz.dForG, Gz.GE.at, Dz.dDGet, Dz.rDGet, Dz.dDGet2, Dz.dDIn, Dz.dDSet, Dz.rDSet, Dz.dDF, Dz.dDM, Dz.dD0, Dz.dDc, Dz.rTupU, Dz.dStar, Dz.keyD, Dz.asD, Dz.dExtend, Dz.rExtendD, Dz.dFld, Dz.dSetFld, Dz.dMeth, Dz.dMake, Dz.dDictP, Dz.dDd, Dz.dPairs, Dz.dTab, Dz.dAugS, Dz.dNever, Dz.dIndex, Dz.dIndexT, List.map_cons, List.map_nil, List.length_cons, List.length_nil, List.length_map, List.length_set, List.replicate, Nat.reduceSub, Nat.reduceAdd, List.cons_append, List.nil_append, List.getElem?_cons_zero, List.getElem?_cons_succ, List.set_cons_zero, List.set_cons_succ, if_true, if_false, Bool.false_eq_true, id, Nat.sub_zero, Bool.not_true, Bool.not_false, true_and, and_true, ne_eq, not_false_eq_true, not_true_eq_false, reduceCtorEq, Option.map_some, Option.bind_some, String.reduceBEq, Bool.or_false, Bool.or_true, Bool.false_or, Bool.true_or, Bool.and_true, Bool.and_false, Bool.true_and, Bool.false_and, decide_true, decide_false, List.all_cons, List.all_nil, List.any_cons, List.any_nil, beq_self_eq_true, t_law_same]
    exact ⟨by decide, .of hR⟩
  | tup ws =>
    have hf' : 0 < m ∧ ws.length ≤ 100000 ∧ fits ws (m - 1) := hf
    simp only [Dz.dSeq, Dz.dIf, Dz.dB, Dz.dOp, Dz.dUn, Dz.dVar, Dz.dC, Dz.dRet, Dz.dRetN, Dz.dNx, Dz.dBrk, Dz.dCnt, Dz.dAsg, Dz.dSet, Dz.dPar, Dz.dPar3, Dz.dgT, Dz.dgTt, Dz.dgCons, Dz.dgNil, Dz.dgN, Dz.dCall, Dz.dCons, Dz.dNil, Dz.dTup, Dz.dCB, Dz.dCN, Dz.dF, Dz.dM, Dz.dSz, Dz.dExpr, Dz.dNot, Dz.dAnd, Dz.dOr, Dz.dAndV, Dz.dOrV, Dz.dNotV, Dz.dIfE, Dz.dChain, Dz.dFrz, Dz.dIt, Dz.dRng1, Dz.dRng2, Dz.dSl, Dz.dNoPart, Dz.dPart, Dz.dCat, Dz.dRep, Dz.dLc, Dz.dFor, Dz.dAppend, Dz.dPop, Dz.dPopAt, Dz.rPopAtD, Dz.dSetIx, Dz.dYes, Dz.dRev, Dz.asI, Dz.asQ, Dz.asL, Dz.rIsN, Dz.rIs, Dz.rIsNot, Dz.isNon_d, Dz.isNon_non, Dz.isNon_tup, Dz.isNon_lst, Dz.isNon_str, Dz.isNon_int, Dz.isNon_bl, Dz.isNon_ref, Dz.isNon_dic, Dz.isNon_ty, Dz.rAddU, Dz.rSub, Dz.rMod, Dz.rDiv, Dz.rPow, Dz.rLt, Dz.rLe, Dz.rGt, Dz.rGe, Dz.rEq, Dz.rNe, Dz.rEqv, Dz.rInt2, Dz.rMax2, Dz.rMin2, Dz.rI, Dz.rCmp, Dz.rIxU, Dz.rAbs, Dz.rToInt, Dz.rListU, Dz.rSlU, Dz.trk, Dz.rLenU, Dz.rMulU, Dz.rNeg, Dz.startD, Dz.wipeD, Dz.Tr.d, Dz.Sg.put_M, Dz.Sg.put_n, Dz.Sg.put_pv, Dz.Sg.del_M, Dz.Sg.del_n, Dz.Sg.del_pv, Dz.Mm.put_same, Dz.Mm.put_put, Dz.Sg.put_put, Dz.Mm.put_ne, Dz.Mm.del_ne, Dz.rIsi, Dz.tyN, Dz.tyNames, Dz.isiT, Dz.subT, Dz.tyOk, Dz.tyNames, Dz.pyOf, Dz.toPy, Dz.toPys, Dz.Sg.put_mk, Dz.Sg.del_mk, Dz.spend_M, Dz.spend_pv, Dz.spend_n, Dz.spend_spend, Dz.spend_put, Dz.spend_del, Dz.spNext_iff, Dz.asI_lst, Dz.asI_tup, Dz.dFJ, Dz.dJs, Dz.dFmt, Dz.Tr.isNil, Gz.gPlain, Gz.gSeq, Gz.gNx, Gz.gIf, Gz.gYield, Gz.gOut, Gz.gForG, Gz.dGCall, Gz.dListG, Gz.dForG, Gz.GE.at, Dz.dDGet, Dz.rDGet, Dz.dDGet2, Dz.dDIn, Dz.dDSet, Dz.rDSet, Dz.dDF, Dz.dDM, Dz.dD0, Dz.dDc, Dz.rTupU, Dz.dStar, Dz.keyD, Dz.asD, Dz.dExtend, Dz.rExtendD, Dz.dFld, Dz.dSetFld, Dz.dMeth, Dz.dMake, Dz.dDictP, Dz.dDd, Dz.dPairs, Dz.dTab, Dz.dAugS, Dz.dNever, Dz.dIndex, Dz.dIndexT, List.map_cons, List.map_nil, List.length_cons, List.length_nil, List.length_map, List.length_set, List.replicate, Nat.reduceSub, Nat.reduceAdd, List.cons_append, List.nil_append, List.getElem?_cons_zero, List.getElem?_cons_succ, List.set_cons_zero, List.set_cons_succ, if_true, if_false, Bool.false_eq_true, id, Nat.sub_zero, Bool.not_true, Bool.not_false, true_and, and_true, ne_eq, not_false_eq_true, not_true_eq_false, reduceCtorEq, Option.map_some, Option.bind_some, String.reduceBEq, Bool.or_false, Bool.or_true, Bool.false_or, Bool.true_or, Bool.and_true, Bool.and_false, Bool.true_and, Bool.false_and, decide_true, decide_false, List.all_cons, List.all_nil, List.any_cons, List.any_nil, beq_self_eq_true, t_law_same]
    refine ⟨by decide, by omega, by omega, ?_⟩
    refine lc_pure (fun _ => none) rfl ?_ (by rw [rg_len, List.length_nil]; omega) ?_
    · rintro x hx k B hk
      obtain ⟨j, hj, rfl⟩ := rg_mem hx
      have hj2 : j < ws.length := by omega
      have e : L2.atI ws (0 + (j : Int)) = some ws[j] := by
        rw [atI_nat (by omega) (by omega), show (0 + (j : Int)).toNat = j by omega]
        simp [hj2]
      simp only [Dz.dSeq, Dz.dIf, Dz.dB, Dz.dOp, Dz.dUn, Dz.dVar, Dz.dC, Dz.dRet, Dz.dRetN, Dz.dNx, Dz.dBrk, Dz.dCnt, Dz.dAsg, Dz.dSet, Dz.dPar, Dz.dPar3, Dz.dgT, Dz.dgTt, Dz.dgCons, Dz.dgNil, Dz.dgN, Dz.dCall, Dz.dCons, Dz.dNil, Dz.dTup, Dz.dCB, Dz.dCN, Dz.dF, Dz.dM, Dz.dSz, Dz.dExpr, Dz.dNot, Dz.dAnd, Dz.dOr, Dz.dAndV, Dz.dOrV, Dz.dNotV, Dz.dIfE, Dz.dChain, Dz.dFrz, Dz.dIt, Dz.dRng1, Dz.dRng2, Dz.dSl, Dz.dNoPart, Dz.dPart, Dz.dCat, Dz.dRep, Dz.dLc, Dz.dFor, Dz.dAppend, Dz.dPop, Dz.dPopAt, Dz.rPopAtD, Dz.dSetIx, Dz.dYes, Dz.dRev, Dz.asI, Dz.asQ, Dz.asL, Dz.rIsN, Dz.rIs, Dz.rIsNot, Dz.isNon_d, Dz.isNon_non, Dz.isNon_tup, Dz.isNon_lst, Dz.isNon_str, Dz.isNon_int, Dz.isNon_bl, Dz.isNon_ref, Dz.isNon_dic, Dz.isNon_ty, Dz.rAddU, Dz.rSub, Dz.rMod, Dz.rDiv, Dz.rPow, Dz.rLt, Dz.rLe, Dz.rGt, Dz.rGe, Dz.rEq, Dz.rNe, Dz.rEqv, Dz.rInt2, Dz.rMax2, Dz.rMin2, Dz.rI, Dz.rCmp, Dz.rIxU, Dz.rAbs, Dz.rToInt, Dz.rListU, Dz.rSlU, Dz.trk, Dz.rLenU, Dz.rMulU, Dz.rNeg, Dz.startD, Dz.wipeD, Dz.Tr.d, Dz.Sg.put_M, Dz.Sg.put_n, Dz.Sg.put_pv, Dz.Sg.del_M, Dz.Sg.del_n, Dz.Sg.del_pv, Dz.Mm.put_same, Dz.Mm.put_put, Dz.Sg.put_put, Dz.Mm.put_ne, Dz.Mm.del_ne, Dz.rIsi, Dz.tyN, Dz.tyNames, Dz.isiT, Dz.subT, Dz.tyOk, Dz.tyNames, Dz.pyOf, Dz.toPy, Dz.toPys, Dz.Sg.put_mk, Dz.Sg.del_mk, Dz.spend_M, Dz.spend_pv, Dz.spend_n, Dz.spend_spend, Dz.spend_put, Dz.spend_del, Dz.spNext_iff, Dz.asI_lst, Dz.asI_tup, Dz.dFJ, Dz.dJs, Dz.dFmt, Dz.Tr.isNil, Gz.gPlain, Gz.gSeq, Gz.gNx, Gz.gIf, Gz.gYield, Gz.gOut, Gz.gForG, Gz.dGCall, Gz.dListG, Gz.dForG, Gz.GE.at, Dz.dDGet, Dz.rDGet, Dz.dDGet2, Dz.dDIn, Dz.dDSet, Dz.rDSet, Dz.dDF, Dz.dDM, Dz.dD0, Dz.dDc, Dz.rTupU, Dz.dStar, Dz.keyD, Dz.asD, Dz.dExtend, Dz.rExtendD, Dz.dFld, Dz.dSetFld, Dz.dMeth, Dz.dMake, Dz.dDictP, Dz.dDd, Dz.dPairs, Dz.dTab, Dz.dAugS, Dz.dNever, Dz.dIndex, Dz.dIndexT, List.map_cons, List.map_nil, List.length_cons, List.length_nil, List.length_map, List.length_set, List.replicate, Nat.reduceSub, Nat.reduceAdd, List.cons_append, List.nil_append, List.getElem?_cons_zero, List.getElem?_cons_succ, List.set_cons_zero, List.set_cons_succ, if_true, if_false, Bool.false_eq_true, id, Nat.sub_zero, Bool.not_true, Bool.not_false, true_and, and_true, ne_eq, not_false_eq_true, not_true_eq_false, reduceCtorEq, Option.map_some, Option.bind_some, String.reduceBEq, Bool.or_false, Bool.or_true, Bool.false_or, Bool.true_or, Bool.and_true, Bool.and_false, Bool.true_and, Bool.false_and, decide_true, decide_false, List.all_cons, List.all_nil, List.any_cons, List.any_nil, beq_self_eq_true, e]
      refine ⟨ws[j], m - 1, rfl, fits_mem hf'.2.2 (List.getElem_mem _), by omega, by omega, ?_⟩
      simp only [Dz.dSeq, Dz.dIf, Dz.dB, Dz.dOp, Dz.dUn, Dz.dVar, Dz.dC, Dz.dRet, Dz.dRetN, Dz.dNx, Dz.dBrk, Dz.dCnt, Dz.dAsg, Dz.dSet, Dz.dPar, Dz.dPar3, Dz.dgT, Dz.dgTt, Dz.dgCons, Dz.dgNil, Dz.dgN, Dz.dCall, Dz.dCons, Dz.dNil, Dz.dTup, Dz.dCB, Dz.dCN, Dz.dF, Dz.dM, Dz.dSz, Dz.dExpr, Dz.dNot, Dz.dAnd, Dz.dOr, Dz.dAndV, Dz.dOrV, Dz.dNotV, Dz.dIfE, Dz.dChain, Dz.dFrz, Dz.dIt, Dz.dRng1, Dz.dRng2, Dz.dSl, Dz.dNoPart, Dz.dPart, Dz.dCat, Dz.dRep, Dz.dLc, Dz.dFor, Dz.dAppend, Dz.dPop, Dz.dPopAt, Dz.rPopAtD, Dz.dSetIx, Dz.dYes, Dz.dRev, Dz.asI, Dz.asQ, Dz.asL, Dz.rIsN, Dz.rIs, Dz.rIsNot, Dz.isNon_d, Dz.isNon_non, Dz.isNon_tup, Dz.isNon_lst, Dz.isNon_str, Dz.isNon_int, Dz.isNon_bl, Dz.isNon_ref, Dz.isNon_dic, Dz.isNon_ty, Dz.rAddU, Dz.rSub, Dz.rMod, Dz.rDiv, Dz.rPow, Dz.rLt, Dz.rLe, Dz.rGt, Dz.rGe, Dz.rEq, Dz.rNe, Dz.rEqv, Dz.rInt2, Dz.rMax2, Dz.rMin2, Dz.rI, Dz.rCmp, Dz.rIxU, Dz.rAbs, Dz.rToInt, Dz.rListU, Dz.rSlU, Dz.trk, Dz.rLenU, Dz.rMulU, Dz.rNeg, Dz.startD, Dz.wipeD, Dz.Tr.d, Dz.Sg.put_M, Dz.Sg.put_n, Dz.Sg.put_pv, Dz.Sg.del_M, Dz.Sg.del_n, Dz.Sg.del_pv, Dz.Mm.put_same, Dz.Mm.put_put, Dz.Sg.put_put, Dz.Mm.put_ne, Dz.Mm.del_ne, Dz.rIsi, Dz.tyN, Dz.tyNames, Dz.isiT, Dz.subT, Dz.tyOk, Dz.tyNames, Dz.pyOf, Dz.toPy, Dz.toPys, Dz.Sg.put_mk, Dz.Sg.del_mk, Dz.spend_M, Dz.spend_pv, Dz.spend_n, Dz.spend_spend, Dz.spend_put, Dz.spend_del, Dz.spNext_iff, Dz.asI_lst, Dz.asI_tup, Dz.dFJ, Dz.dJs, Dz.dFmt, Dz.Tr.isNil, Gz.gPlain, Gz.gSeq, Gz.gNx, Gz.gIf, Gz.gYield, Gz.gOut, Gz.gForG, Gz.dGCall, Gz.dListG, Gz.dForG, Gz.GE.at, Dz.dDGet, Dz.rDGet, Dz.dDGet2, Dz.dDIn, Dz.dDSet, Dz.rDSet, Dz.dDF, Dz.dDM, Dz.dD0, Dz.dDc, Dz.rTupU, Dz.dStar, Dz.keyD, Dz.asD, Dz.dExtend, Dz.rExtendD, Dz.dFld, Dz.dSetFld, Dz.dMeth, Dz.dMake, Dz.dDictP, Dz.dDd, Dz.dPairs, Dz.dTab, Dz.dAugS, Dz.dNever, Dz.dIndex, Dz.dIndexT, List.map_cons, List.map_nil, List.length_cons, List.length_nil, List.length_map, List.length_set, List.replicate, Nat.reduceSub, Nat.reduceAdd, List.cons_append, List.nil_append, List.getElem?_cons_zero, List.getElem?_cons_succ, List.set_cons_zero, List.set_cons_succ, if_true, if_false, Bool.false_eq_true, id, Nat.sub_zero, Bool.not_true, Bool.not_false, true_and, and_true, ne_eq, not_false_eq_true, not_true_eq_false, reduceCtorEq, Option.map_some, Option.bind_some, String.reduceBEq, Bool.or_false, Bool.or_true, Bool.false_or, Bool.true_or, Bool.and_true, Bool.and_false, Bool.true_and, Bool.false_and, decide_true, decide_false, List.all_cons, List.all_nil, List.any_cons, List.any_nil, beq_self_eq_true]
      exact hk
    · rw [show (List.filterMap (fun _ => none) (rg 0 (ws.length : Int).toNat) : List D) = [] by simp]
      exact ⟨by decide, rfl, rfl, .of hR⟩
  | lst ws =>
    have hf' : 0 < m ∧ ws.length ≤ 100000 ∧ fits ws (m - 1) := hf
    simp only [Dz.dSeq, Dz.dIf, Dz.dB, Dz.dOp, Dz.dUn, Dz.dVar, Dz.dC, Dz.dRet, Dz.dRetN, Dz.dNx, Dz.dBrk, Dz.dCnt, Dz.dAsg, Dz.dSet, Dz.dPar, Dz.dPar3, Dz.dgT, Dz.dgTt, Dz.dgCons, Dz.dgNil, Dz.dgN, Dz.dCall, Dz.dCons, Dz.dNil, Dz.dTup, Dz.dCB, Dz.dCN, Dz.dF, Dz.dM, Dz.dSz, Dz.dExpr, Dz.dNot, Dz.dAnd, Dz.dOr, Dz.dAndV, Dz.dOrV, Dz.dNotV, Dz.dIfE, Dz.dChain, Dz.dFrz, Dz.dIt, Dz.dRng1, Dz.dRng2, Dz.dSl, Dz.dNoPart, Dz.dPart, Dz.dCat, Dz.dRep, Dz.dLc, Dz.dFor, Dz.dAppend, Dz.dPop, Dz.dPopAt, Dz.rPopAtD, Dz.dSetIx, Dz.dYes, Dz.dRev, Dz.asI, Dz.asQ, Dz.asL, Dz.rIsN, Dz.rIs, Dz.rIsNot, Dz.isNon_d, Dz.isNon_non, Dz.isNon_tup, Dz.isNon_lst, Dz.isNon_str, Dz.isNon_int, Dz.isNon_bl, Dz.isNon_ref, Dz.isNon_dic, Dz.isNon_ty, Dz.rAddU, Dz.rSub, Dz.rMod, Dz.rDiv, Dz.rPow, Dz.rLt, Dz.rLe, Dz.rGt, Dz.rGe, Dz.rEq, Dz.rNe, Dz.rEqv, Dz.rInt2, Dz.rMax2, Dz.rMin2, Dz.rI, Dz.rCmp, Dz.rIxU, Dz.rAbs, Dz.rToInt, Dz.rListU, Dz.rSlU, Dz.trk, Dz.rLenU, Dz.rMulU, Dz.rNeg, Dz.startD, Dz.wipeD, Dz.Tr.d, Dz.Sg.put_M, Dz.Sg.put_n, Dz.Sg.put_pv, Dz.Sg.del_M, Dz.Sg.del_n, Dz.Sg.del_pv, Dz.Mm.put_same, Dz.Mm.put_put, Dz.Sg.put_put, Dz.Mm.put_ne, Dz.Mm.del_ne, Dz.rIsi, Dz.tyN, Dz.tyNames, Dz.isiT, Dz.subT, Dz.tyOk, Dz.tyNames, Dz.pyOf, Dz.toPy, Dz.toPys, Dz.Sg.put_mk, Dz.Sg.del_mk, Dz.spend_M, Dz.spend_pv, Dz.spend_n, Dz.spend_spend, Dz.spend_put, Dz.spend_del, Dz.spNext_iff, Dz.asI_lst, Dz.asI_tup, Dz.dFJ, Dz.dJs, Dz.dFmt, Dz.Tr.isNil, Gz.gPlain, Gz.gSeq, Gz.gNx, Gz.gIf, Gz.gYield, Gz.gOut, Gz.gForG, Gz.dGCall, Gz.dListG, Gz.dForG, Gz.GE.at, Dz.dDGet, Dz.rDGet, Dz.dDGet2, Dz.dDIn, Dz.dDSet, Dz.rDSet, Dz.dDF, Dz.dDM, Dz.dD0, Dz.dDc, Dz.rTupU, Dz.dStar, Dz.keyD, Dz.asD, Dz.dExtend, Dz.rExtendD, Dz.dFld, Dz.dSetFld, Dz.dMeth, Dz.dMake, Dz.dDictP, Dz.dDd, Dz.dPairs, Dz.dTab, Dz.dAugS, Dz.dNever, Dz.dIndex, Dz.dIndexT, List.map_cons, List.map_nil, List.length_cons, List.length_nil, List.length_map, List.length_set, List.replicate, Nat.reduceSub, Nat.reduceAdd, List.cons_append, List.nil_append, List.getElem?_cons_zero, List.getElem?_cons_succ, List.set_cons_zero, List.set_cons_succ, if_true, if_false, Bool.false_eq_true, id, Nat.sub_zero, Bool.not_true, Bool.not_false, true_and, and_true, ne_eq, not_false_eq_true, not_true_eq_false, reduceCtorEq, Option.map_some, Option.bind_some, String.reduceBEq, Bool.or_false, Bool.or_true, Bool.false_or, Bool.true_or, Bool.and_true, Bool.and_false, Bool.true_and, Bool.false_and, decide_true, decide_false, List.all_cons, List.all_nil, List.any_cons, List.any_nil, beq_self_eq_true, t_law_same]
    refine ⟨by decide, by omega, by omega, ?_⟩
    refine lc_pure (fun _ => none) rfl ?_ (by rw [rg_len, List.length_nil]; omega) ?_
    · rintro x hx k B hk
      obtain ⟨j, hj, rfl⟩ := rg_mem hx
      have hj2 : j < ws.length := by omega
      have e : L2.atI ws (0 + (j : Int)) = some ws[j] := by
        rw [atI_nat (by omega) (by omega), show (0 + (j : Int)).toNat = j by omega]
        simp [hj2]
      simp only [Dz.dSeq, Dz.dIf, Dz.dB, Dz.dOp, Dz.dUn, Dz.dVar, Dz.dC, Dz.dRet, Dz.dRetN, Dz.dNx, Dz.dBrk, Dz.dCnt, Dz.dAsg, Dz.dSet, Dz.dPar, Dz.dPar3, Dz.dgT, Dz.dgTt, Dz.dgCons, Dz.dgNil, Dz.dgN, Dz.dCall, Dz.dCons, Dz.dNil, Dz.dTup, Dz.dCB, Dz.dCN, Dz.dF, Dz.dM, Dz.dSz, Dz.dExpr, Dz.dNot, Dz.dAnd, Dz.dOr, Dz.dAndV, Dz.dOrV, Dz.dNotV, Dz.dIfE, Dz.dChain, Dz.dFrz, Dz.dIt, Dz.dRng1, Dz.dRng2, Dz.dSl, Dz.dNoPart, Dz.dPart, Dz.dCat, Dz.dRep, Dz.dLc, Dz.dFor, Dz.dAppend, Dz.dPop, Dz.dPopAt, Dz.rPopAtD, Dz.dSetIx, Dz.dYes, Dz.dRev, Dz.asI, Dz.asQ, Dz.asL, Dz.rIsN, Dz.rIs, Dz.rIsNot, Dz.isNon_d, Dz.isNon_non, Dz.isNon_tup, Dz.isNon_lst, Dz.isNon_str, Dz.isNon_int, Dz.isNon_bl, Dz.isNon_ref, Dz.isNon_dic, Dz.isNon_ty, Dz.rAddU, Dz.rSub, Dz.rMod, Dz.rDiv, Dz.rPow, Dz.rLt, Dz.rLe, Dz.rGt, Dz.rGe, Dz.rEq, Dz.rNe, Dz.rEqv, Dz.rInt2, Dz.rMax2, Dz.rMin2, Dz.rI, Dz.rCmp, Dz.rIxU, Dz.rAbs, Dz.rToInt, Dz.rListU, Dz.rSlU, Dz.trk, Dz.rLenU, Dz.rMulU, Dz.rNeg, Dz.startD, Dz.wipeD, Dz.Tr.d, Dz.Sg.put_M, Dz.Sg.put_n, Dz.Sg.put_pv, Dz.Sg.del_M, Dz.Sg.del_n, Dz.Sg.del_pv, Dz.Mm.put_same, Dz.Mm.put_put, Dz.Sg.put_put, Dz.Mm.put_ne, Dz.Mm.del_ne, Dz.rIsi, Dz.tyN, Dz.tyNames, Dz.isiT, Dz.subT, Dz.tyOk, Dz.tyNames, Dz.pyOf, Dz.toPy, Dz.toPys, Dz.Sg.put_mk, Dz.Sg.del_mk, Dz.spend_M, Dz.spend_pv, Dz.spend_n, Dz.spend_spend, Dz.spend_put, Dz.spend_del, Dz.spNext_iff, Dz.asI_lst, Dz.asI_tup, Dz.dFJ, Dz.dJs, Dz.dFmt, Dz.Tr.isNil, Gz.gPlain, Gz.gSeq, Gz.gNx, Gz.gIf, Gz.gYield, Gz.gOut, Gz.gForG, Gz.dGCall, Gz.dListG, Gz.dForG, Gz.GE.at, Dz.dDGet, Dz.rDGet, Dz.dDGet2, Dz.dDIn, Dz.dDSet, Dz.rDSet, Dz.dDF, Dz.dDM, Dz.dD0, Dz.dDc, Dz.rTupU, Dz.dStar, Dz.keyD, Dz.asD, Dz.dExtend, Dz.rExtendD, Dz.dFld, Dz.dSetFld, Dz.dMeth, Dz.dMake, Dz.dDictP, Dz.dDd, Dz.dPairs, Dz.dTab, Dz.dAugS, Dz.dNever, Dz.dIndex, Dz.dIndexT, List.map_cons, List.map_nil, List.length_cons, List.length_nil, List.length_map, List.length_set, List.replicate, Nat.reduceSub, Nat.reduceAdd, List.cons_append, List.nil_append, List.getElem?_cons_zero, List.getElem?_cons_succ, List.set_cons_zero, List.set_cons_succ, if_true, if_false, Bool.false_eq_true, id, Nat.sub_zero, Bool.not_true, Bool.not_false, true_and, and_true, ne_eq, not_false_eq_true, not_true_eq_false, reduceCtorEq, Option.map_some, Option.bind_some, String.reduceBEq, Bool.or_false, Bool.or_true, Bool.false_or, Bool.true_or, Bool.and_true, Bool.and_false, Bool.true_and, Bool.false_and, decide_true, decide_false, List.all_cons, List.all_nil, List.any_cons, List.any_nil, beq_self_eq_true, e]
      refine ⟨ws[j], m - 1, rfl, fits_mem hf'.2.2 (List.getElem_mem _), by omega, by omega, ?_⟩
      simp only [Dz.dSeq, Dz.dIf, Dz.dB, Dz.dOp, Dz.dUn, Dz.dVar, Dz.dC, Dz.dRet, Dz.dRetN, Dz.dNx, Dz.dBrk, Dz.dCnt, Dz.dAsg, Dz.dSet, Dz.dPar, Dz.dPar3, Dz.dgT, Dz.dgTt, Dz.dgCons, Dz.dgNil, Dz.dgN, Dz.dCall, Dz.dCons, Dz.dNil, Dz.dTup, Dz.dCB, Dz.dCN, Dz.dF, Dz.dM, Dz.dSz, Dz.dExpr, Dz.dNot, Dz.dAnd, Dz.dOr, Dz.dAndV, Dz.dOrV, Dz.dNotV, Dz.dIfE, Dz.dChain, Dz.dFrz, Dz.dIt, Dz.dRng1, Dz.dRng2, Dz.dSl, Dz.dNoPart, Dz.dPart, Dz.dCat, Dz.dRep, Dz.dLc, Dz.dFor, Dz.dAppend, Dz.dPop, Dz.dPopAt, Dz.rPopAtD, Dz.dSetIx, Dz.dYes, Dz.dRev, Dz.asI, Dz.asQ, Dz.asL, Dz.rIsN, Dz.rIs, Dz.rIsNot, Dz.isNon_d, Dz.isNon_non, Dz.isNon_tup, Dz.isNon_lst, Dz.isNon_str, Dz.isNon_int, Dz.isNon_bl, Dz.isNon_ref, Dz.isNon_dic, Dz.isNon_ty, Dz.rAddU, Dz.rSub, Dz.rMod, Dz.rDiv, Dz.rPow, Dz.rLt, Dz.rLe, Dz.rGt, Dz.rGe, Dz.rEq, Dz.rNe, Dz.rEqv, Dz.rInt2, Dz.rMax2, Dz.rMin2, Dz.rI, Dz.rCmp, Dz.rIxU, Dz.rAbs, Dz.rToInt, Dz.rListU, Dz.rSlU, Dz.trk, Dz.rLenU, Dz.rMulU, Dz.rNeg, Dz.startD, Dz.wipeD, Dz.Tr.d, Dz.Sg.put_M, Dz.Sg.put_n, Dz.Sg.put_pv, Dz.Sg.del_M, Dz.Sg.del_n, Dz.Sg.del_pv, Dz.Mm.put_same, Dz.Mm.put_put, Dz.Sg.put_put, Dz.Mm.put_ne, Dz.Mm.del_ne, Dz.rIsi, Dz.tyN, Dz.tyNames, Dz.isiT, Dz.subT, Dz.tyOk, Dz.tyNames, Dz.pyOf, Dz.toPy, Dz.toPys, Dz.Sg.put_mk, Dz.Sg.del_mk, Dz.spend_M, Dz.spend_pv, Dz.spend_n, Dz.spend_spend, Dz.spend_put, Dz.spend_del, Dz.spNext_iff, Dz.asI_lst, Dz.asI_tup, Dz.dFJ, Dz.dJs, Dz.dFmt, Dz.Tr.isNil, Gz.gPlain, Gz.gSeq, Gz.gNx, Gz.gIf, Gz.gYield, Gz.gOut, Gz.gForG, Gz.dGCall, Gz.dListG, Gz.dForG, Gz.GE.at, Dz.dDGet, Dz.rDGet, Dz.dDGet2, Dz.dDIn, Dz.dDSet, Dz.rDSet, Dz.dDF, Dz.dDM, Dz.dD0, Dz.dDc, Dz.rTupU, Dz.dStar, Dz.keyD, Dz.asD, Dz.dExtend, Dz.rExtendD, Dz.dFld, Dz.dSetFld, Dz.dMeth, Dz.dMake, Dz.dDictP, Dz.dDd, Dz.dPairs, Dz.dTab, Dz.dAugS, Dz.dNever, Dz.dIndex, Dz.dIndexT, List.map_cons, List.map_nil, List.length_cons, List.length_nil, List.length_map, List.length_set, List.replicate, Nat.reduceSub, Nat.reduceAdd, List.cons_append, List.nil_append, List.getElem?_cons_zero, List.getElem?_cons_succ, List.set_cons_zero, List.set_cons_succ, if_true, if_false, Bool.false_eq_true, id, Nat.sub_zero, Bool.not_true, Bool.not_false, true_and, and_true, ne_eq, not_false_eq_true, not_true_eq_false, reduceCtorEq, Option.map_some, Option.bind_some, String.reduceBEq, Bool.or_false, Bool.or_true, Bool.false_or, Bool.true_or, Bool.and_true, Bool.and_false, Bool.true_and, Bool.false_and, decide_true, decide_false, List.all_cons, List.all_nil, List.any_cons, List.any_nil, beq_self_eq_true]
      exact hk
    · rw [show (List.filterMap (fun _ => none) (rg 0 (ws.length : Int).toNat) : List D) = [] by simp]
      exact ⟨by decide, rfl, rfl, .of hR⟩
  | dic _ _ => exact hf.elim
  | ref _ => exact hf.elim
  | ty _ => exact hf.elim
  | exc _ _ _ _ => exact hf.elim
end Pr
namespace Pr
open PySem PySem.Spec PyProof.Rows L2 Dz
def ltrS (x : Str) : Bool := match x.cps.toList with
  | [c] => decide (c ∈ abc)
  | _ => false
def ltr : D → Bool
  | .str x => ltrS x
  | _ => false
def szN : D → Option Nat
  | .non => some 0
  | .tup [l, .str x, r] => if ltrS x then (szN l).bind fun a => (szN r).map fun b => a + 1 + b else none
  | _ => none
def onD : Option Nat → D
  | none => .non
  | some k => .int k
theorem str1 {x : Str} (h : x.length = 1) : ∃ c, x = ⟨#[c]⟩ := by
  obtain ⟨⟨l⟩⟩ := x
  have h' : l.length = 1 := h
  match l, h' with
  | [c], _ => exact ⟨c, rfl⟩
theorem ltrS_no {x : Str} (h : ¬ x.length = 1) : ltrS x = false := by
  obtain ⟨⟨l⟩⟩ := x
  have h' : ¬ l.length = 1 := h
  match l, h' with
  | [], _ => rfl
  | [c], h => exact absurd rfl h
  | _ :: _ :: _, _ => rfl
def Vl (w : D) (m : Nat) : Prop := gx w m ∧ m ≤ 50 ∧ wx w ≤ 10000
def spLetter : SpD := fun ws s R _ => ∃ w m, ws = [w] ∧ Vl w m ∧ R (.bl (ltr w)) s
theorem e_is_letter : ∀ ws s R, spLetter ws s R X0 → ws.length = 1 ∧ t_is_letter { nx := fun _ s' => Lw R .non s', rt := Lw R } (Dz.startD N_is_letter ws) s := by
  rintro ws s R ⟨w, m, rfl, ⟨hg, hm, hw⟩, hR⟩
  refine ⟨rfl, ?_⟩
  cases w with
  | str x =>
    have hx : x.length ≤ 10000 := hw
    simp only [Dz.dSeq, Dz.dIf, Dz.dB, Dz.dOp, Dz.dUn, Dz.dVar, Dz.dC, Dz.dRet, Dz.dRetN, Dz.dNx, Dz.dBrk, Dz.dCnt, Dz.dAsg, Dz.dSet, Dz.dPar, Dz.dPar3, Dz.dgT, Dz.dgTt, Dz.dgCons, Dz.dgNil, Dz.dgN, Dz.dCall, Dz.dCons, Dz.dNil, Dz.dTup, Dz.dCB, Dz.dCN, Dz.dF, Dz.dM, Dz.dSz, Dz.dExpr, Dz.dNot, Dz.dAnd, Dz.dOr, Dz.dAndV, Dz.dOrV, Dz.dNotV, Dz.dIfE, Dz.dChain, Dz.dFrz, Dz.dIt, Dz.dRng1, Dz.dRng2, Dz.dSl, Dz.dNoPart, Dz.dPart, Dz.dCat, Dz.dRep, Dz.dLc, Dz.dFor, Dz.dAppend, Dz.dPop, Dz.dPopAt, Dz.rPopAtD, Dz.dSetIx, Dz.dYes, Dz.dRev, Dz.asI, Dz.asQ, Dz.asL, Dz.rIsN, Dz.rIs, Dz.rIsNot, Dz.isNon_d, Dz.isNon_non, Dz.isNon_tup, Dz.isNon_lst, Dz.isNon_str, Dz.isNon_int, Dz.isNon_bl, Dz.isNon_ref, Dz.isNon_dic, Dz.isNon_ty, Dz.rAddU, Dz.rSub, Dz.rMod, Dz.rDiv, Dz.rPow, Dz.rLt, Dz.rLe, Dz.rGt, Dz.rGe, Dz.rEq, Dz.rNe, Dz.rEqv, Dz.rInt2, Dz.rMax2, Dz.rMin2, Dz.rI, Dz.rCmp, Dz.rIxU, Dz.rAbs, Dz.rToInt, Dz.rListU, Dz.rSlU, Dz.trk, Dz.rLenU, Dz.rMulU, Dz.rNeg, Dz.startD, Dz.wipeD, Dz.Tr.d, Dz.Sg.put_M, Dz.Sg.put_n, Dz.Sg.put_pv, Dz.Sg.del_M, Dz.Sg.del_n, Dz.Sg.del_pv, Dz.Mm.put_same, Dz.Mm.put_put, Dz.Sg.put_put, Dz.Mm.put_ne, Dz.Mm.del_ne, Dz.rIsi, Dz.tyN, Dz.tyNames, Dz.isiT, Dz.subT, Dz.tyOk, Dz.tyNames, Dz.pyOf, Dz.toPy, Dz.toPys, Dz.Sg.put_mk, Dz.Sg.del_mk, Dz.spend_M, Dz.spend_pv, Dz.spend_n, Dz.spend_spend, Dz.spend_put, Dz.spend_del, Dz.spNext_iff, Dz.asI_lst, Dz.asI_tup, Dz.dFJ, Dz.dJs, Dz.dFmt, Dz.Tr.isNil, Gz.gPlain, Gz.gSeq, Gz.gNx, Gz.gIf, Gz.gYield, Gz.gOut, Gz.gForG, Gz.dGCall, Gz.dListG, Gz.dForG, Gz.GE.at, Dz.dDGet, Dz.rDGet, Dz.dDGet2, Dz.dDIn, Dz.dDSet, Dz.rDSet, Dz.dDF, Dz.dDM, Dz.dD0, Dz.dDc, Dz.rTupU, Dz.dStar, Dz.keyD, Dz.asD, Dz.dExtend, Dz.rExtendD, Dz.dFld, Dz.dSetFld, Dz.dMeth, Dz.dMake, Dz.dDictP, Dz.dDd, Dz.dPairs, Dz.dTab, Dz.dAugS, Dz.dNever, Dz.dIndex, Dz.dIndexT, List.map_cons, List.map_nil, List.length_cons, List.length_nil, List.length_map, List.length_set, List.replicate, Nat.reduceSub, Nat.reduceAdd, List.cons_append, List.nil_append, List.getElem?_cons_zero, List.getElem?_cons_succ, List.set_cons_zero, List.set_cons_succ, if_true, if_false, Bool.false_eq_true, id, Nat.sub_zero, Bool.not_true, Bool.not_false, true_and, and_true, ne_eq, not_false_eq_true, not_true_eq_false, reduceCtorEq, Option.map_some, Option.bind_some, String.reduceBEq, Bool.or_false, Bool.or_true, Bool.false_or, Bool.true_or, Bool.and_true, Bool.and_false, Bool.true_and, Bool.false_and, decide_true, decide_false, List.all_cons, List.all_nil, List.any_cons, List.any_nil, beq_self_eq_true, t_is_letter, Dz.rIn, Dz.rInU]
    refine ⟨by omega, ?_⟩
    by_cases h1 : x.length = 1
    · obtain ⟨c, rfl⟩ := str1 h1
      rw [if_pos (decide_eq_true (by rw [h1]; rfl))]
      refine ⟨c, rfl, .of ?_⟩
      rw [abc_eq]
      exact hR
    · rw [if_neg (by rw [decide_eq_true_eq]; omega)]
      have e : ltr (.str x) = false := ltrS_no h1
      rw [e] at hR
      exact .of hR
  | ref _ => exact hg.elim
  | ty _ => exact hg.elim
  | exc _ _ _ _ => exact hg.elim
  | _ =>
    simp only [Dz.dSeq, Dz.dIf, Dz.dB, Dz.dOp, Dz.dUn, Dz.dVar, Dz.dC, Dz.dRet, Dz.dRetN, Dz.dNx, Dz.dBrk, Dz.dCnt, Dz.dAsg, Dz.dSet, Dz.dPar, Dz.dPar3, Dz.dgT, Dz.dgTt, Dz.dgCons, Dz.dgNil, Dz.dgN, Dz.dCall, Dz.dCons, Dz.dNil, Dz.dTup, Dz.dCB, Dz.dCN, Dz.dF, Dz.dM, Dz.dSz, Dz.dExpr, Dz.dNot, Dz.dAnd, Dz.dOr, Dz.dAndV, Dz.dOrV, Dz.dNotV, Dz.dIfE, Dz.dChain, Dz.dFrz, Dz.dIt, Dz.dRng1, Dz.dRng2, Dz.dSl, Dz.dNoPart, Dz.dPart, Dz.dCat, Dz.dRep, Dz.dLc, Dz.dFor, Dz.dAppend, Dz.dPop, Dz.dPopAt, Dz.rPopAtD, Dz.dSetIx, Dz.dYes, Dz.dRev, Dz.asI, Dz.asQ, Dz.asL, Dz.rIsN, Dz.rIs, Dz.rIsNot, Dz.isNon_d, Dz.isNon_non, Dz.isNon_tup, Dz.isNon_lst, Dz.isNon_str, Dz.isNon_int, Dz.isNon_bl, Dz.isNon_ref, Dz.isNon_dic, Dz.isNon_ty, Dz.rAddU, Dz.rSub, Dz.rMod, Dz.rDiv, Dz.rPow, Dz.rLt, Dz.rLe, Dz.rGt, Dz.rGe, Dz.rEq, Dz.rNe, Dz.rEqv, Dz.rInt2, Dz.rMax2, Dz.rMin2, Dz.rI, Dz.rCmp, Dz.rIxU, Dz.rAbs, Dz.rToInt, Dz.rListU, Dz.rSlU, Dz.trk, Dz.rLenU, Dz.rMulU, Dz.rNeg, Dz.startD, Dz.wipeD, Dz.Tr.d, Dz.Sg.put_M, Dz.Sg.put_n, Dz.Sg.put_pv, Dz.Sg.del_M, Dz.Sg.del_n, Dz.Sg.del_pv, Dz.Mm.put_same, Dz.Mm.put_put, Dz.Sg.put_put, Dz.Mm.put_ne, Dz.Mm.del_ne, Dz.rIsi, Dz.tyN, Dz.tyNames, Dz.isiT, Dz.subT, Dz.tyOk, Dz.tyNames, Dz.pyOf, Dz.toPy, Dz.toPys, Dz.Sg.put_mk, Dz.Sg.del_mk, Dz.spend_M, Dz.spend_pv, Dz.spend_n, Dz.spend_spend, Dz.spend_put, Dz.spend_del, Dz.spNext_iff, Dz.asI_lst, Dz.asI_tup, Dz.dFJ, Dz.dJs, Dz.dFmt, Dz.Tr.isNil, Gz.gPlain, Gz.gSeq, Gz.gNx, Gz.gIf, Gz.gYield, Gz.gOut, Gz.gForG, Gz.dGCall, Gz.dListG, Gz.dForG, Gz.GE.at, Dz.dDGet, Dz.rDGet, Dz.dDGet2, Dz.dDIn, Dz.dDSet, Dz.rDSet, Dz.dDF, Dz.dDM, Dz.dD0, Dz.dDc, Dz.rTupU, Dz.dStar, Dz.keyD, Dz.asD, Dz.dExtend, Dz.rExtendD, Dz.dFld, Dz.dSetFld, Dz.dMeth, Dz.dMake, Dz.dDictP, Dz.dDd, Dz.dPairs, Dz.dTab, Dz.dAugS, Dz.dNever, Dz.dIndex, Dz.dIndexT, List.map_cons, List.map_nil, List.length_cons, List.length_nil, List.length_map, List.length_set, List.replicate, Nat.reduceSub, Nat.reduceAdd, List.cons_append, List.nil_append, List.getElem?_cons_zero, List.getElem?_cons_succ, List.set_cons_zero, List.set_cons_succ, if_true, if_false, Bool.false_eq_true, id, Nat.sub_zero, Bool.not_true, Bool.not_false, true_and, and_true, ne_eq, not_false_eq_true, not_true_eq_false, reduceCtorEq, Option.map_some, Option.bind_some, String.reduceBEq, Bool.or_false, Bool.or_true, Bool.false_or, Bool.true_or, Bool.and_true, Bool.and_false, Bool.true_and, Bool.false_and, decide_true, decide_false, List.all_cons, List.all_nil, List.any_cons, List.any_nil, beq_self_eq_true, t_is_letter]
    exact .of hR
theorem rIn_sz {a b : Option Nat} {s : Sg} {R : KD} (q : R (.bl (a.isNone || b.isNone)) s) : rInU id .non (.lst [onD a, onD b]) s R := by
  cases a <;> cases b <;> exact (by first | exact q | exact ⟨rfl, rfl, q⟩)
def spSN (n : Nat) : SpD := fun ws s R _ => ∃ w m, ws = [w] ∧ Vl w m ∧ m < n ∧ R (onD (szN w)) s
theorem Vl.mem {ws : List D} {m : Nat} {w : D} (h : Vl (.tup ws) m) (hm : w ∈ ws) : 0 < m ∧ Vl w (m - 1) := by
  obtain ⟨⟨h1, h2, h3⟩, h4, h5⟩ := h
  refine ⟨h1, gxs_mem h3 hm, by omega, ?_⟩
  have : ∀ {l : List D}, w ∈ l → wx w ≤ wxs l := by
    intro l
    induction l with
    | nil => intro h; exact nomatch h
    | cons u l ih =>
      intro h
      show wx w ≤ wx u + 1 + wxs l
      rcases List.mem_cons.mp h with rfl | h
      · omega
      · have := ih h; omega
  exact Nat.le_trans (this hm) h5
theorem szN_no {ws : List D} (h : ¬ ws.length = 3) : szN (.tup ws) = none := by
  match ws, h with
  | [], _ => simp [szN]
  | [_], _ => simp [szN]
  | [_, _], _ => simp [szN]
  | [_, _, _], h => exact absurd rfl h
  | _ :: _ :: _ :: _ :: _, _ => simp [szN]
theorem szN_tup {l x r : D} : szN (.tup [l, x, r]) = if ltr x then (szN l).bind fun a => (szN r).map fun b => a + 1 + b else none := by
  cases x <;> first | rfl | (rw [szN]; rfl)
theorem e_size_or_none (n : Nat) : ∀ ws s R, spSN (n + 1) ws s R X0 → ws.length = 1 ∧ t_size_or_none spLetter (spSN n) { nx := fun _ s' => Lw R .non s', rt := Lw R } (Dz.startD N_size_or_none ws) s := by
  rintro ws s R ⟨w, m, rfl, hv, hm, hR⟩
  refine ⟨rfl, ?_⟩
  have hg := hv.1
  cases w with
  | tup ws =>
    have hl : ws.length ≤ 100000 := hg.2.1
    simp only [Dz.dSeq, Dz.dIf, Dz.dB, Dz.dOp, Dz.dUn, Dz.dVar, Dz.dC, Dz.dRet, Dz.dRetN, Dz.dNx, Dz.dBrk, Dz.dCnt, Dz.dAsg, Dz.dSet, Dz.dPar, Dz.dPar3, Dz.dgT, Dz.dgTt, Dz.dgCons, Dz.dgNil, Dz.dgN, Dz.dCall, Dz.dCons, Dz.dNil, Dz.dTup, Dz.dCB, Dz.dCN, Dz.dF, Dz.dM, Dz.dSz, Dz.dExpr, Dz.dNot, Dz.dAnd, Dz.dOr, Dz.dAndV, Dz.dOrV, Dz.dNotV, Dz.dIfE, Dz.dChain, Dz.dFrz, Dz.dIt, Dz.dRng1, Dz.dRng2, Dz.dSl, Dz.dNoPart, Dz.dPart, Dz.dCat, Dz.dRep, Dz.dLc, Dz.dFor, Dz.dAppend, Dz.dPop, Dz.dPopAt, Dz.rPopAtD, Dz.dSetIx, Dz.dYes, Dz.dRev, Dz.asI, Dz.asQ, Dz.asL, Dz.rIsN, Dz.rIs, Dz.rIsNot, Dz.isNon_d, Dz.isNon_non, Dz.isNon_tup, Dz.isNon_lst, Dz.isNon_str, Dz.isNon_int, Dz.isNon_bl, Dz.isNon_ref, Dz.isNon_dic, Dz.isNon_ty, Dz.rAddU, Dz.rSub, Dz.rMod, Dz.rDiv, Dz.rPow, Dz.rLt, Dz.rLe, Dz.rGt, Dz.rGe, Dz.rEq, Dz.rNe, Dz.rEqv, Dz.rInt2, Dz.rMax2, Dz.rMin2, Dz.rI, Dz.rCmp, Dz.rIxU, Dz.rAbs, Dz.rToInt, Dz.rListU, Dz.rSlU, Dz.trk, Dz.rLenU, Dz.rMulU, Dz.rNeg, Dz.startD, Dz.wipeD, Dz.Tr.d, Dz.Sg.put_M, Dz.Sg.put_n, Dz.Sg.put_pv, Dz.Sg.del_M, Dz.Sg.del_n, Dz.Sg.del_pv, Dz.Mm.put_same, Dz.Mm.put_put, Dz.Sg.put_put, Dz.Mm.put_ne, Dz.Mm.del_ne, Dz.rIsi, Dz.tyN, Dz.tyNames, Dz.isiT, Dz.subT, Dz.tyOk, Dz.tyNames, Dz.pyOf, Dz.toPy, Dz.toPys, Dz.Sg.put_mk, Dz.Sg.del_mk, Dz.spend_M, Dz.spend_pv, Dz.spend_n, Dz.spend_spend, Dz.spend_put, Dz.spend_del, Dz.spNext_iff, Dz.asI_lst, Dz.asI_tup, Dz.dFJ, Dz.dJs, Dz.dFmt, Dz.Tr.isNil, Gz.gPlain, Gz.gSeq, Gz.gNx, Gz.gIf, Gz.gYield, Gz.gOut, Gz.gForG, Gz.dGCall, Gz.dListG, Gz.dForG, Gz.GE.at, Dz.dDGet, Dz.rDGet, Dz.dDGet2, Dz.dDIn, Dz.dDSet, Dz.rDSet, Dz.dDF, Dz.dDM, Dz.dD0, Dz.dDc, Dz.rTupU, Dz.dStar, Dz.keyD, Dz.asD, Dz.dExtend, Dz.rExtendD, Dz.dFld, Dz.dSetFld, Dz.dMeth, Dz.dMake, Dz.dDictP, Dz.dDd, Dz.dPairs, Dz.dTab, Dz.dAugS, Dz.dNever, Dz.dIndex, Dz.dIndexT, List.map_cons, List.map_nil, List.length_cons, List.length_nil, List.length_map, List.length_set, List.replicate, Nat.reduceSub, Nat.reduceAdd, List.cons_append, List.nil_append, List.getElem?_cons_zero, List.getElem?_cons_succ, List.set_cons_zero, List.set_cons_succ, if_true, if_false, Bool.false_eq_true, id, Nat.sub_zero, Bool.not_true, Bool.not_false, true_and, and_true, ne_eq, not_false_eq_true, not_true_eq_false, reduceCtorEq, Option.map_some, Option.bind_some, String.reduceBEq, Bool.or_false, Bool.or_true, Bool.false_or, Bool.true_or, Bool.and_true, Bool.and_false, Bool.true_and, Bool.false_and, decide_true, decide_false, List.all_cons, List.all_nil, List.any_cons, List.any_nil, beq_self_eq_true, t_size_or_none]
    by_cases h3 : ws.length = 3
    · obtain ⟨l, x, r, rfl⟩ : ∃ l x r, ws = [l, x, r] := by
        match ws, h3 with
        | [l, x, r], _ => exact ⟨l, x, r, rfl⟩
      have i0 : L2.atI [l, x, r] 0 = some l := rfl
      have i1 : L2.atI [l, x, r] 1 = some x := rfl
      have i2 : L2.atI [l, x, r] 2 = some r := rfl
      obtain ⟨m0, vl⟩ := hv.mem (w := l) (by simp)
      obtain ⟨_, vx⟩ := hv.mem (w := x) (by simp)
      obtain ⟨_, vr⟩ := hv.mem (w := r) (by simp)
      simp only [Dz.dSeq, Dz.dIf, Dz.dB, Dz.dOp, Dz.dUn, Dz.dVar, Dz.dC, Dz.dRet, Dz.dRetN, Dz.dNx, Dz.dBrk, Dz.dCnt, Dz.dAsg, Dz.dSet, Dz.dPar, Dz.dPar3, Dz.dgT, Dz.dgTt, Dz.dgCons, Dz.dgNil, Dz.dgN, Dz.dCall, Dz.dCons, Dz.dNil, Dz.dTup, Dz.dCB, Dz.dCN, Dz.dF, Dz.dM, Dz.dSz, Dz.dExpr, Dz.dNot, Dz.dAnd, Dz.dOr, Dz.dAndV, Dz.dOrV, Dz.dNotV, Dz.dIfE, Dz.dChain, Dz.dFrz, Dz.dIt, Dz.dRng1, Dz.dRng2, Dz.dSl, Dz.dNoPart, Dz.dPart, Dz.dCat, Dz.dRep, Dz.dLc, Dz.dFor, Dz.dAppend, Dz.dPop, Dz.dPopAt, Dz.rPopAtD, Dz.dSetIx, Dz.dYes, Dz.dRev, Dz.asI, Dz.asQ, Dz.asL, Dz.rIsN, Dz.rIs, Dz.rIsNot, Dz.isNon_d, Dz.isNon_non, Dz.isNon_tup, Dz.isNon_lst, Dz.isNon_str, Dz.isNon_int, Dz.isNon_bl, Dz.isNon_ref, Dz.isNon_dic, Dz.isNon_ty, Dz.rAddU, Dz.rSub, Dz.rMod, Dz.rDiv, Dz.rPow, Dz.rLt, Dz.rLe, Dz.rGt, Dz.rGe, Dz.rEq, Dz.rNe, Dz.rEqv, Dz.rInt2, Dz.rMax2, Dz.rMin2, Dz.rI, Dz.rCmp, Dz.rIxU, Dz.rAbs, Dz.rToInt, Dz.rListU, Dz.rSlU, Dz.trk, Dz.rLenU, Dz.rMulU, Dz.rNeg, Dz.startD, Dz.wipeD, Dz.Tr.d, Dz.Sg.put_M, Dz.Sg.put_n, Dz.Sg.put_pv, Dz.Sg.del_M, Dz.Sg.del_n, Dz.Sg.del_pv, Dz.Mm.put_same, Dz.Mm.put_put, Dz.Sg.put_put, Dz.Mm.put_ne, Dz.Mm.del_ne, Dz.rIsi, Dz.tyN, Dz.tyNames, Dz.isiT, Dz.subT, Dz.tyOk, Dz.tyNames, Dz.pyOf, Dz.toPy, Dz.toPys, Dz.Sg.put_mk, Dz.Sg.del_mk, Dz.spend_M, Dz.spend_pv, Dz.spend_n, Dz.spend_spend, Dz.spend_put, Dz.spend_del, Dz.spNext_iff, Dz.asI_lst, Dz.asI_tup, Dz.dFJ, Dz.dJs, Dz.dFmt, Dz.Tr.isNil, Gz.gPlain, Gz.gSeq, Gz.gNx, Gz.gIf, Gz.gYield, Gz.gOut, Gz.gForG, Gz.dGCall, Gz.dListG, Gz.dForG, Gz.GE.at, Dz.dDGet, Dz.rDGet, Dz.dDGet2, Dz.dDIn, Dz.dDSet, Dz.rDSet, Dz.dDF, Dz.dDM, Dz.dD0, Dz.dDc, Dz.rTupU, Dz.dStar, Dz.keyD, Dz.asD, Dz.dExtend, Dz.rExtendD, Dz.dFld, Dz.dSetFld, Dz.dMeth, Dz.dMake, Dz.dDictP, Dz.dDd, Dz.dPairs, Dz.dTab, Dz.dAugS, Dz.dNever, Dz.dIndex, Dz.dIndexT, List.map_cons, List.map_nil, List.length_cons, List.length_nil, List.length_map, List.length_set, List.replicate, Nat.reduceSub, Nat.reduceAdd, List.cons_append, List.nil_append, List.getElem?_cons_zero, List.getElem?_cons_succ, List.set_cons_zero, List.set_cons_succ, if_true, if_false, Bool.false_eq_true, id, Nat.sub_zero, Bool.not_true, Bool.not_false, true_and, and_true, ne_eq, not_false_eq_true, not_true_eq_false, reduceCtorEq, Option.map_some, Option.bind_some, String.reduceBEq, Bool.or_false, Bool.or_true, Bool.false_or, Bool.true_or, Bool.and_true, Bool.and_false, Bool.true_and, Bool.false_and, decide_true, decide_false, List.all_cons, List.all_nil, List.any_cons, List.any_nil, beq_self_eq_true, i0, i1, i2]
      rw [szN_tup] at hR
      refine ⟨x, m - 1, rfl, vx, ?_⟩
      cases hx : ltr x with
      | false =>
        rw [hx, if_neg Bool.false_ne_true] at hR
        simp only [Dz.dSeq, Dz.dIf, Dz.dB, Dz.dOp, Dz.dUn, Dz.dVar, Dz.dC, Dz.dRet, Dz.dRetN, Dz.dNx, Dz.dBrk, Dz.dCnt, Dz.dAsg, Dz.dSet, Dz.dPar, Dz.dPar3, Dz.dgT, Dz.dgTt, Dz.dgCons, Dz.dgNil, Dz.dgN, Dz.dCall, Dz.dCons, Dz.dNil, Dz.dTup, Dz.dCB, Dz.dCN, Dz.dF, Dz.dM, Dz.dSz, Dz.dExpr, Dz.dNot, Dz.dAnd, Dz.dOr, Dz.dAndV, Dz.dOrV, Dz.dNotV, Dz.dIfE, Dz.dChain, Dz.dFrz, Dz.dIt, Dz.dRng1, Dz.dRng2, Dz.dSl, Dz.dNoPart, Dz.dPart, Dz.dCat, Dz.dRep, Dz.dLc, Dz.dFor, Dz.dAppend, Dz.dPop, Dz.dPopAt, Dz.rPopAtD, Dz.dSetIx, Dz.dYes, Dz.dRev, Dz.asI, Dz.asQ, Dz.asL, Dz.rIsN, Dz.rIs, Dz.rIsNot, Dz.isNon_d, Dz.isNon_non, Dz.isNon_tup, Dz.isNon_lst, Dz.isNon_str, Dz.isNon_int, Dz.isNon_bl, Dz.isNon_ref, Dz.isNon_dic, Dz.isNon_ty, Dz.rAddU, Dz.rSub, Dz.rMod, Dz.rDiv, Dz.rPow, Dz.rLt, Dz.rLe, Dz.rGt, Dz.rGe, Dz.rEq, Dz.rNe, Dz.rEqv, Dz.rInt2, Dz.rMax2, Dz.rMin2, Dz.rI, Dz.rCmp, Dz.rIxU, Dz.rAbs, Dz.rToInt, Dz.rListU, Dz.rSlU, Dz.trk, Dz.rLenU, Dz.rMulU, Dz.rNeg, Dz.startD, Dz.wipeD, Dz.Tr.d, Dz.Sg.put_M, Dz.Sg.put_n, Dz.Sg.put_pv, Dz.Sg.del_M, Dz.Sg.del_n, Dz.Sg.del_pv, Dz.Mm.put_same, Dz.Mm.put_put, Dz.Sg.put_put, Dz.Mm.put_ne, Dz.Mm.del_ne, Dz.rIsi, Dz.tyN, Dz.tyNames, Dz.isiT, Dz.subT, Dz.tyOk, Dz.tyNames, Dz.pyOf, Dz.toPy, Dz.toPys, Dz.Sg.put_mk, Dz.Sg.del_mk, Dz.spend_M, Dz.spend_pv, Dz.spend_n, Dz.spend_spend, Dz.spend_put, Dz.spend_del, Dz.spNext_iff, Dz.asI_lst, Dz.asI_tup, Dz.dFJ, Dz.dJs, Dz.dFmt, Dz.Tr.isNil, Gz.gPlain, Gz.gSeq, Gz.gNx, Gz.gIf, Gz.gYield, Gz.gOut, Gz.gForG, Gz.dGCall, Gz.dListG, Gz.dForG, Gz.GE.at, Dz.dDGet, Dz.rDGet, Dz.dDGet2, Dz.dDIn, Dz.dDSet, Dz.rDSet, Dz.dDF, Dz.dDM, Dz.dD0, Dz.dDc, Dz.rTupU, Dz.dStar, Dz.keyD, Dz.asD, Dz.dExtend, Dz.rExtendD, Dz.dFld, Dz.dSetFld, Dz.dMeth, Dz.dMake, Dz.dDictP, Dz.dDd, Dz.dPairs, Dz.dTab, Dz.dAugS, Dz.dNever, Dz.dIndex, Dz.dIndexT, List.map_cons, List.map_nil, List.length_cons, List.length_nil, List.length_map, List.length_set, List.replicate, Nat.reduceSub, Nat.reduceAdd, List.cons_append, List.nil_append, List.getElem?_cons_zero, List.getElem?_cons_succ, List.set_cons_zero, List.set_cons_succ, if_true, if_false, Bool.false_eq_true, id, Nat.sub_zero, Bool.not_true, Bool.not_false, true_and, and_true, ne_eq, not_false_eq_true, not_true_eq_false, reduceCtorEq, Option.map_some, Option.bind_some, String.reduceBEq, Bool.or_false, Bool.or_true, Bool.false_or, Bool.true_or, Bool.and_true, Bool.and_false, Bool.true_and, Bool.false_and, decide_true, decide_false, List.all_cons, List.all_nil, List.any_cons, List.any_nil, beq_self_eq_true]
        exact .of hR
      | true =>
        rw [hx, if_pos rfl] at hR
        simp only [Dz.dSeq, Dz.dIf, Dz.dB, Dz.dOp, Dz.dUn, Dz.dVar, Dz.dC, Dz.dRet, Dz.dRetN, Dz.dNx, Dz.dBrk, Dz.dCnt, Dz.dAsg, Dz.dSet, Dz.dPar, Dz.dPar3, Dz.dgT, Dz.dgTt, Dz.dgCons, Dz.dgNil, Dz.dgN, Dz.dCall, Dz.dCons, Dz.dNil, Dz.dTup, Dz.dCB, Dz.dCN, Dz.dF, Dz.dM, Dz.dSz, Dz.dExpr, Dz.dNot, Dz.dAnd, Dz.dOr, Dz.dAndV, Dz.dOrV, Dz.dNotV, Dz.dIfE, Dz.dChain, Dz.dFrz, Dz.dIt, Dz.dRng1, Dz.dRng2, Dz.dSl, Dz.dNoPart, Dz.dPart, Dz.dCat, Dz.dRep, Dz.dLc, Dz.dFor, Dz.dAppend, Dz.dPop, Dz.dPopAt, Dz.rPopAtD, Dz.dSetIx, Dz.dYes, Dz.dRev, Dz.asI, Dz.asQ, Dz.asL, Dz.rIsN, Dz.rIs, Dz.rIsNot, Dz.isNon_d, Dz.isNon_non, Dz.isNon_tup, Dz.isNon_lst, Dz.isNon_str, Dz.isNon_int, Dz.isNon_bl, Dz.isNon_ref, Dz.isNon_dic, Dz.isNon_ty, Dz.rAddU, Dz.rSub, Dz.rMod, Dz.rDiv, Dz.rPow, Dz.rLt, Dz.rLe, Dz.rGt, Dz.rGe, Dz.rEq, Dz.rNe, Dz.rEqv, Dz.rInt2, Dz.rMax2, Dz.rMin2, Dz.rI, Dz.rCmp, Dz.rIxU, Dz.rAbs, Dz.rToInt, Dz.rListU, Dz.rSlU, Dz.trk, Dz.rLenU, Dz.rMulU, Dz.rNeg, Dz.startD, Dz.wipeD, Dz.Tr.d, Dz.Sg.put_M, Dz.Sg.put_n, Dz.Sg.put_pv, Dz.Sg.del_M, Dz.Sg.del_n, Dz.Sg.del_pv, Dz.Mm.put_same, Dz.Mm.put_put, Dz.Sg.put_put, Dz.Mm.put_ne, Dz.Mm.del_ne, Dz.rIsi, Dz.tyN, Dz.tyNames, Dz.isiT, Dz.subT, Dz.tyOk, Dz.tyNames, Dz.pyOf, Dz.toPy, Dz.toPys, Dz.Sg.put_mk, Dz.Sg.del_mk, Dz.spend_M, Dz.spend_pv, Dz.spend_n, Dz.spend_spend, Dz.spend_put, Dz.spend_del, Dz.spNext_iff, Dz.asI_lst, Dz.asI_tup, Dz.dFJ, Dz.dJs, Dz.dFmt, Dz.Tr.isNil, Gz.gPlain, Gz.gSeq, Gz.gNx, Gz.gIf, Gz.gYield, Gz.gOut, Gz.gForG, Gz.dGCall, Gz.dListG, Gz.dForG, Gz.GE.at, Dz.dDGet, Dz.rDGet, Dz.dDGet2, Dz.dDIn, Dz.dDSet, Dz.rDSet, Dz.dDF, Dz.dDM, Dz.dD0, Dz.dDc, Dz.rTupU, Dz.dStar, Dz.keyD, Dz.asD, Dz.dExtend, Dz.rExtendD, Dz.dFld, Dz.dSetFld, Dz.dMeth, Dz.dMake, Dz.dDictP, Dz.dDd, Dz.dPairs, Dz.dTab, Dz.dAugS, Dz.dNever, Dz.dIndex, Dz.dIndexT, List.map_cons, List.map_nil, List.length_cons, List.length_nil, List.length_map, List.length_set, List.replicate, Nat.reduceSub, Nat.reduceAdd, List.cons_append, List.nil_append, List.getElem?_cons_zero, List.getElem?_cons_succ, List.set_cons_zero, List.set_cons_succ, if_true, if_false, Bool.false_eq_true, id, Nat.sub_zero, Bool.not_true, Bool.not_false, true_and, and_true, ne_eq, not_false_eq_true, not_true_eq_false, reduceCtorEq, Option.map_some, Option.bind_some, String.reduceBEq, Bool.or_false, Bool.or_true, Bool.false_or, Bool.true_or, Bool.and_true, Bool.and_false, Bool.true_and, Bool.false_and, decide_true, decide_false, List.all_cons, List.all_nil, List.any_cons, List.any_nil, beq_self_eq_true]
        refine ⟨l, m - 1, rfl, vl, by omega, r, m - 1, rfl, vr, by omega, by decide, rIn_sz ?_⟩
        cases ha : szN l with
        | none =>
          rw [ha] at hR
          simp only [Dz.dSeq, Dz.dIf, Dz.dB, Dz.dOp, Dz.dUn, Dz.dVar, Dz.dC, Dz.dRet, Dz.dRetN, Dz.dNx, Dz.dBrk, Dz.dCnt, Dz.dAsg, Dz.dSet, Dz.dPar, Dz.dPar3, Dz.dgT, Dz.dgTt, Dz.dgCons, Dz.dgNil, Dz.dgN, Dz.dCall, Dz.dCons, Dz.dNil, Dz.dTup, Dz.dCB, Dz.dCN, Dz.dF, Dz.dM, Dz.dSz, Dz.dExpr, Dz.dNot, Dz.dAnd, Dz.dOr, Dz.dAndV, Dz.dOrV, Dz.dNotV, Dz.dIfE, Dz.dChain, Dz.dFrz, Dz.dIt, Dz.dRng1, Dz.dRng2, Dz.dSl, Dz.dNoPart, Dz.dPart, Dz.dCat, Dz.dRep, Dz.dLc, Dz.dFor, Dz.dAppend, Dz.dPop, Dz.dPopAt, Dz.rPopAtD, Dz.dSetIx, Dz.dYes, Dz.dRev, Dz.asI, Dz.asQ, Dz.asL, Dz.rIsN, Dz.rIs, Dz.rIsNot, Dz.isNon_d, Dz.isNon_non, Dz.isNon_tup, Dz.isNon_lst, Dz.isNon_str, Dz.isNon_int, Dz.isNon_bl, Dz.isNon_ref, Dz.isNon_dic, Dz.isNon_ty, Dz.rAddU, Dz.rSub, Dz.rMod, Dz.rDiv, Dz.rPow, Dz.rLt, Dz.rLe, Dz.rGt, Dz.rGe, Dz.rEq, Dz.rNe, Dz.rEqv, Dz.rInt2, Dz.rMax2, Dz.rMin2, Dz.rI, Dz.rCmp, Dz.rIxU, Dz.rAbs, Dz.rToInt, Dz.rListU, Dz.rSlU, Dz.trk, Dz.rLenU, Dz.rMulU, Dz.rNeg, Dz.startD, Dz.wipeD, Dz.Tr.d, Dz.Sg.put_M, Dz.Sg.put_n, Dz.Sg.put_pv, Dz.Sg.del_M, Dz.Sg.del_n, Dz.Sg.del_pv, Dz.Mm.put_same, Dz.Mm.put_put, Dz.Sg.put_put, Dz.Mm.put_ne, Dz.Mm.del_ne, Dz.rIsi, Dz.tyN, Dz.tyNames, Dz.isiT, Dz.subT, Dz.tyOk, Dz.tyNames, Dz.pyOf, Dz.toPy, Dz.toPys, Dz.Sg.put_mk, Dz.Sg.del_mk, Dz.spend_M, Dz.spend_pv, Dz.spend_n, Dz.spend_spend, Dz.spend_put, Dz.spend_del, Dz.spNext_iff, Dz.asI_lst, Dz.asI_tup, Dz.dFJ, Dz.dJs, Dz.dFmt, Dz.Tr.isNil, Gz.gPlain, Gz.gSeq, Gz.gNx, Gz.gIf, Gz.gYield, Gz.gOut, Gz.gForG, Gz.dGCall, Gz.dListG, Gz.dForG, Gz.GE.at, Dz.dDGet, Dz.rDGet, Dz.dDGet2, Dz.dDIn, Dz.dDSet, Dz.rDSet, Dz.dDF, Dz.dDM, Dz.dD0, Dz.dDc, Dz.rTupU, Dz.dStar, Dz.keyD, Dz.asD, Dz.dExtend, Dz.rExtendD, Dz.dFld, Dz.dSetFld, Dz.dMeth, Dz.dMake, Dz.dDictP, Dz.dDd, Dz.dPairs, Dz.dTab, Dz.dAugS, Dz.dNever, Dz.dIndex, Dz.dIndexT, List.map_cons, List.map_nil, List.length_cons, List.length_nil, List.length_map, List.length_set, List.replicate, Nat.reduceSub, Nat.reduceAdd, List.cons_append, List.nil_append, List.getElem?_cons_zero, List.getElem?_cons_succ, List.set_cons_zero, List.set_cons_succ, if_true, if_false, Bool.false_eq_true, id, Nat.sub_zero, Bool.not_true, Bool.not_false, true_and, and_true, ne_eq, not_false_eq_true, not_true_eq_false, reduceCtorEq, Option.map_some, Option.bind_some, String.reduceBEq, Bool.or_false, Bool.or_true, Bool.false_or, Bool.true_or, Bool.and_true, Bool.and_false, Bool.true_and, Bool.false_and, decide_true, decide_false, List.all_cons, List.all_nil, List.any_cons, List.any_nil, beq_self_eq_true, Option.isNone_none, Option.isNone_some]
          exact .of hR
        | some a =>
          cases hb : szN r with
          | none =>
            rw [ha, hb] at hR
            simp only [Dz.dSeq, Dz.dIf, Dz.dB, Dz.dOp, Dz.dUn, Dz.dVar, Dz.dC, Dz.dRet, Dz.dRetN, Dz.dNx, Dz.dBrk, Dz.dCnt, Dz.dAsg, Dz.dSet, Dz.dPar, Dz.dPar3, Dz.dgT, Dz.dgTt, Dz.dgCons, Dz.dgNil, Dz.dgN, Dz.dCall, Dz.dCons, Dz.dNil, Dz.dTup, Dz.dCB, Dz.dCN, Dz.dF, Dz.dM, Dz.dSz, Dz.dExpr, Dz.dNot, Dz.dAnd, Dz.dOr, Dz.dAndV, Dz.dOrV, Dz.dNotV, Dz.dIfE, Dz.dChain, Dz.dFrz, Dz.dIt, Dz.dRng1, Dz.dRng2, Dz.dSl, Dz.dNoPart, Dz.dPart, Dz.dCat, Dz.dRep, Dz.dLc, Dz.dFor, Dz.dAppend, Dz.dPop, Dz.dPopAt, Dz.rPopAtD, Dz.dSetIx, Dz.dYes, Dz.dRev, Dz.asI, Dz.asQ, Dz.asL, Dz.rIsN, Dz.rIs, Dz.rIsNot, Dz.isNon_d, Dz.isNon_non, Dz.isNon_tup, Dz.isNon_lst, Dz.isNon_str, Dz.isNon_int, Dz.isNon_bl, Dz.isNon_ref, Dz.isNon_dic, Dz.isNon_ty, Dz.rAddU, Dz.rSub, Dz.rMod, Dz.rDiv, Dz.rPow, Dz.rLt, Dz.rLe, Dz.rGt, Dz.rGe, Dz.rEq, Dz.rNe, Dz.rEqv, Dz.rInt2, Dz.rMax2, Dz.rMin2, Dz.rI, Dz.rCmp, Dz.rIxU, Dz.rAbs, Dz.rToInt, Dz.rListU, Dz.rSlU, Dz.trk, Dz.rLenU, Dz.rMulU, Dz.rNeg, Dz.startD, Dz.wipeD, Dz.Tr.d, Dz.Sg.put_M, Dz.Sg.put_n, Dz.Sg.put_pv, Dz.Sg.del_M, Dz.Sg.del_n, Dz.Sg.del_pv, Dz.Mm.put_same, Dz.Mm.put_put, Dz.Sg.put_put, Dz.Mm.put_ne, Dz.Mm.del_ne, Dz.rIsi, Dz.tyN, Dz.tyNames, Dz.isiT, Dz.subT, Dz.tyOk, Dz.tyNames, Dz.pyOf, Dz.toPy, Dz.toPys, Dz.Sg.put_mk, Dz.Sg.del_mk, Dz.spend_M, Dz.spend_pv, Dz.spend_n, Dz.spend_spend, Dz.spend_put, Dz.spend_del, Dz.spNext_iff, Dz.asI_lst, Dz.asI_tup, Dz.dFJ, Dz.dJs, Dz.dFmt, Dz.Tr.isNil, Gz.gPlain, Gz.gSeq, Gz.gNx, Gz.gIf, Gz.gYield, Gz.gOut, Gz.gForG, Gz.dGCall, Gz.dListG, Gz.dForG, Gz.GE.at, Dz.dDGet, Dz.rDGet, Dz.dDGet2, Dz.dDIn, Dz.dDSet, Dz.rDSet, Dz.dDF, Dz.dDM, Dz.dD0, Dz.dDc, Dz.rTupU, Dz.dStar, Dz.keyD, Dz.asD, Dz.dExtend, Dz.rExtendD, Dz.dFld, Dz.dSetFld, Dz.dMeth, Dz.dMake, Dz.dDictP, Dz.dDd, Dz.dPairs, Dz.dTab, Dz.dAugS, Dz.dNever, Dz.dIndex, Dz.dIndexT, List.map_cons, List.map_nil, List.length_cons, List.length_nil, List.length_map, List.length_set, List.replicate, Nat.reduceSub, Nat.reduceAdd, List.cons_append, List.nil_append, List.getElem?_cons_zero, List.getElem?_cons_succ, List.set_cons_zero, List.set_cons_succ, if_true, if_false, Bool.false_eq_true, id, Nat.sub_zero, Bool.not_true, Bool.not_false, true_and, and_true, ne_eq, not_false_eq_true, not_true_eq_false, reduceCtorEq, Option.map_some, Option.bind_some, String.reduceBEq, Bool.or_false, Bool.or_true, Bool.false_or, Bool.true_or, Bool.and_true, Bool.and_false, Bool.true_and, Bool.false_and, decide_true, decide_false, List.all_cons, List.all_nil, List.any_cons, List.any_nil, beq_self_eq_true, Option.isNone_none, Option.isNone_some]
            exact .of hR
          | some b =>
            rw [ha, hb] at hR
            simp only [Dz.dSeq, Dz.dIf, Dz.dB, Dz.dOp, Dz.dUn, Dz.dVar, Dz.dC, Dz.dRet, Dz.dRetN, Dz.dNx, Dz.dBrk, Dz.dCnt, Dz.dAsg, Dz.dSet, Dz.dPar, Dz.dPar3, Dz.dgT, Dz.dgTt, Dz.dgCons, Dz.dgNil, Dz.dgN, Dz.dCall, Dz.dCons, Dz.dNil, Dz.dTup, Dz.dCB, Dz.dCN, Dz.dF, Dz.dM, Dz.dSz, Dz.dExpr, Dz.dNot, Dz.dAnd, Dz.dOr, Dz.dAndV, Dz.dOrV, Dz.dNotV, Dz.dIfE, Dz.dChain, Dz.dFrz, Dz.dIt, Dz.dRng1, Dz.dRng2, Dz.dSl, Dz.dNoPart, Dz.dPart, Dz.dCat, Dz.dRep, Dz.dLc, Dz.dFor, Dz.dAppend, Dz.dPop, Dz.dPopAt, Dz.rPopAtD, Dz.dSetIx, Dz.dYes, Dz.dRev, Dz.asI, Dz.asQ, Dz.asL, Dz.rIsN, Dz.rIs, Dz.rIsNot, Dz.isNon_d, Dz.isNon_non, Dz.isNon_tup, Dz.isNon_lst, Dz.isNon_str, Dz.isNon_int, Dz.isNon_bl, Dz.isNon_ref, Dz.isNon_dic, Dz.isNon_ty, Dz.rAddU, Dz.rSub, Dz.rMod, Dz.rDiv, Dz.rPow, Dz.rLt, Dz.rLe, Dz.rGt, Dz.rGe, Dz.rEq, Dz.rNe, Dz.rEqv, Dz.rInt2, Dz.rMax2, Dz.rMin2, Dz.rI, Dz.rCmp, Dz.rIxU, Dz.rAbs, Dz.rToInt, Dz.rListU, Dz.rSlU, Dz.trk, Dz.rLenU, Dz.rMulU, Dz.rNeg, Dz.startD, Dz.wipeD, Dz.Tr.d, Dz.Sg.put_M, Dz.Sg.put_n, Dz.Sg.put_pv, Dz.Sg.del_M, Dz.Sg.del_n, Dz.Sg.del_pv, Dz.Mm.put_same, Dz.Mm.put_put, Dz.Sg.put_put, Dz.Mm.put_ne, Dz.Mm.del_ne, Dz.rIsi, Dz.tyN, Dz.tyNames, Dz.isiT, Dz.subT, Dz.tyOk, Dz.tyNames, Dz.pyOf, Dz.toPy, Dz.toPys, Dz.Sg.put_mk, Dz.Sg.del_mk, Dz.spend_M, Dz.spend_pv, Dz.spend_n, Dz.spend_spend, Dz.spend_put, Dz.spend_del, Dz.spNext_iff, Dz.asI_lst, Dz.asI_tup, Dz.dFJ, Dz.dJs, Dz.dFmt, Dz.Tr.isNil, Gz.gPlain, Gz.gSeq, Gz.gNx, Gz.gIf, Gz.gYield, Gz.gOut, Gz.gForG, Gz.dGCall, Gz.dListG, Gz.dForG, Gz.GE.at, Dz.dDGet, Dz.rDGet, Dz.dDGet2, Dz.dDIn, Dz.dDSet, Dz.rDSet, Dz.dDF, Dz.dDM, Dz.dD0, Dz.dDc, Dz.rTupU, Dz.dStar, Dz.keyD, Dz.asD, Dz.dExtend, Dz.rExtendD, Dz.dFld, Dz.dSetFld, Dz.dMeth, Dz.dMake, Dz.dDictP, Dz.dDd, Dz.dPairs, Dz.dTab, Dz.dAugS, Dz.dNever, Dz.dIndex, Dz.dIndexT, List.map_cons, List.map_nil, List.length_cons, List.length_nil, List.length_map, List.length_set, List.replicate, Nat.reduceSub, Nat.reduceAdd, List.cons_append, List.nil_append, List.getElem?_cons_zero, List.getElem?_cons_succ, List.set_cons_zero, List.set_cons_succ, if_true, if_false, Bool.false_eq_true, id, Nat.sub_zero, Bool.not_true, Bool.not_false, true_and, and_true, ne_eq, not_false_eq_true, not_true_eq_false, reduceCtorEq, Option.map_some, Option.bind_some, String.reduceBEq, Bool.or_false, Bool.or_true, Bool.false_or, Bool.true_or, Bool.and_true, Bool.and_false, Bool.true_and, Bool.false_and, decide_true, decide_false, List.all_cons, List.all_nil, List.any_cons, List.any_nil, beq_self_eq_true, Option.isNone_none, Option.isNone_some]
            refine ⟨.lst [.int a, .int b], [(a : Int), (b : Int)], rfl, rfl, .of ?_⟩
            have e : (1 : Int) + [(a : Int), (b : Int)].sum = ((a + 1 + b : Nat) : Int) := by simp; omega
            rw [e]
            exact hR
    · rw [szN_no h3] at hR
      have e : decide ((ws.length : Int) = 3) = false := by rw [decide_eq_false_iff_not]; omega
      simp only [Dz.dSeq, Dz.dIf, Dz.dB, Dz.dOp, Dz.dUn, Dz.dVar, Dz.dC, Dz.dRet, Dz.dRetN, Dz.dNx, Dz.dBrk, Dz.dCnt, Dz.dAsg, Dz.dSet, Dz.dPar, Dz.dPar3, Dz.dgT, Dz.dgTt, Dz.dgCons, Dz.dgNil, Dz.dgN, Dz.dCall, Dz.dCons, Dz.dNil, Dz.dTup, Dz.dCB, Dz.dCN, Dz.dF, Dz.dM, Dz.dSz, Dz.dExpr, Dz.dNot, Dz.dAnd, Dz.dOr, Dz.dAndV, Dz.dOrV, Dz.dNotV, Dz.dIfE, Dz.dChain, Dz.dFrz, Dz.dIt, Dz.dRng1, Dz.dRng2, Dz.dSl, Dz.dNoPart, Dz.dPart, Dz.dCat, Dz.dRep, Dz.dLc, Dz.dFor, Dz.dAppend, Dz.dPop, Dz.dPopAt, Dz.rPopAtD, Dz.dSetIx, Dz.dYes, Dz.dRev, Dz.asI, Dz.asQ, Dz.asL, Dz.rIsN, Dz.rIs, Dz.rIsNot, Dz.isNon_d, Dz.isNon_non, Dz.isNon_tup, Dz.isNon_lst, Dz.isNon_str, Dz.isNon_int, Dz.isNon_bl, Dz.isNon_ref, Dz.isNon_dic, Dz.isNon_ty, Dz.rAddU, Dz.rSub, Dz.rMod, Dz.rDiv, Dz.rPow, Dz.rLt, Dz.rLe, Dz.rGt, Dz.rGe, Dz.rEq, Dz.rNe, Dz.rEqv, Dz.rInt2, Dz.rMax2, Dz.rMin2, Dz.rI, Dz.rCmp, Dz.rIxU, Dz.rAbs, Dz.rToInt, Dz.rListU, Dz.rSlU, Dz.trk, Dz.rLenU, Dz.rMulU, Dz.rNeg, Dz.startD, Dz.wipeD, Dz.Tr.d, Dz.Sg.put_M, Dz.Sg.put_n, Dz.Sg.put_pv, Dz.Sg.del_M, Dz.Sg.del_n, Dz.Sg.del_pv, Dz.Mm.put_same, Dz.Mm.put_put, Dz.Sg.put_put, Dz.Mm.put_ne, Dz.Mm.del_ne, Dz.rIsi, Dz.tyN, Dz.tyNames, Dz.isiT, Dz.subT, Dz.tyOk, Dz.tyNames, Dz.pyOf, Dz.toPy, Dz.toPys, Dz.Sg.put_mk, Dz.Sg.del_mk, Dz.spend_M, Dz.spend_pv, Dz.spend_n, Dz.spend_spend, Dz.spend_put, Dz.spend_del, Dz.spNext_iff, Dz.asI_lst, Dz.asI_tup, Dz.dFJ, Dz.dJs, Dz.dFmt, Dz.Tr.isNil, Gz.gPlain, Gz.gSeq, Gz.gNx, Gz.gIf, Gz.gYield, Gz.gOut, Gz.gForG, Gz.dGCall, Gz.dListG, Gz.dForG, Gz.GE.at, Dz.dDGet, Dz.rDGet, Dz.dDGet2, Dz.dDIn, Dz.dDSet, Dz.rDSet, Dz.dDF, Dz.dDM, Dz.dD0, Dz.dDc, Dz.rTupU, Dz.dStar, Dz.keyD, Dz.asD, Dz.dExtend, Dz.rExtendD, Dz.dFld, Dz.dSetFld, Dz.dMeth, Dz.dMake, Dz.dDictP, Dz.dDd, Dz.dPairs, Dz.dTab, Dz.dAugS, Dz.dNever, Dz.dIndex, Dz.dIndexT, List.map_cons, List.map_nil, List.length_cons, List.length_nil, List.length_map, List.length_set, List.replicate, Nat.reduceSub, Nat.reduceAdd, List.cons_append, List.nil_append, List.getElem?_cons_zero, List.getElem?_cons_succ, List.set_cons_zero, List.set_cons_succ, if_true, if_false, Bool.false_eq_true, id, Nat.sub_zero, Bool.not_true, Bool.not_false, true_and, and_true, ne_eq, not_false_eq_true, not_true_eq_false, reduceCtorEq, Option.map_some, Option.bind_some, String.reduceBEq, Bool.or_false, Bool.or_true, Bool.false_or, Bool.true_or, Bool.and_true, Bool.and_false, Bool.true_and, Bool.false_and, decide_true, decide_false, List.all_cons, List.all_nil, List.any_cons, List.any_nil, beq_self_eq_true, e]
      exact .of hR
  | ref _ => exact hg.elim
  | ty _ => exact hg.elim
  | exc _ _ _ _ => exact hg.elim
  | _ =>
    simp only [Dz.dSeq, Dz.dIf, Dz.dB, Dz.dOp, Dz.dUn, Dz.dVar, Dz.dC, Dz.dRet, Dz.dRetN, Dz.dNx, Dz.dBrk, Dz.dCnt, Dz.dAsg, Dz.dSet, Dz.dPar, Dz.dPar3, Dz.dgT, Dz.dgTt, Dz.dgCons, Dz.dgNil, Dz.dgN, Dz.dCall, Dz.dCons, Dz.dNil, Dz.dTup, Dz.dCB, Dz.dCN, Dz.dF, Dz.dM, Dz.dSz, Dz.dExpr, Dz.dNot, Dz.dAnd, Dz.dOr, Dz.dAndV, Dz.dOrV, Dz.dNotV, Dz.dIfE, Dz.dChain, Dz.dFrz, Dz.dIt, Dz.dRng1, Dz.dRng2, Dz.dSl, Dz.dNoPart, Dz.dPart, Dz.dCat, Dz.dRep, Dz.dLc, Dz.dFor, Dz.dAppend, Dz.dPop, Dz.dPopAt, Dz.rPopAtD, Dz.dSetIx, Dz.dYes, Dz.dRev, Dz.asI, Dz.asQ, Dz.asL, Dz.rIsN, Dz.rIs, Dz.rIsNot, Dz.isNon_d, Dz.isNon_non, Dz.isNon_tup, Dz.isNon_lst, Dz.isNon_str, Dz.isNon_int, Dz.isNon_bl, Dz.isNon_ref, Dz.isNon_dic, Dz.isNon_ty, Dz.rAddU, Dz.rSub, Dz.rMod, Dz.rDiv, Dz.rPow, Dz.rLt, Dz.rLe, Dz.rGt, Dz.rGe, Dz.rEq, Dz.rNe, Dz.rEqv, Dz.rInt2, Dz.rMax2, Dz.rMin2, Dz.rI, Dz.rCmp, Dz.rIxU, Dz.rAbs, Dz.rToInt, Dz.rListU, Dz.rSlU, Dz.trk, Dz.rLenU, Dz.rMulU, Dz.rNeg, Dz.startD, Dz.wipeD, Dz.Tr.d, Dz.Sg.put_M, Dz.Sg.put_n, Dz.Sg.put_pv, Dz.Sg.del_M, Dz.Sg.del_n, Dz.Sg.del_pv, Dz.Mm.put_same, Dz.Mm.put_put, Dz.Sg.put_put, Dz.Mm.put_ne, Dz.Mm.del_ne, Dz.rIsi, Dz.tyN, Dz.tyNames, Dz.isiT, Dz.subT, Dz.tyOk, Dz.tyNames, Dz.pyOf, Dz.toPy, Dz.toPys, Dz.Sg.put_mk, Dz.Sg.del_mk, Dz.spend_M, Dz.spend_pv, Dz.spend_n, Dz.spend_spend, Dz.spend_put, Dz.spend_del, Dz.spNext_iff, Dz.asI_lst, Dz.asI_tup, Dz.dFJ, Dz.dJs, Dz.dFmt, Dz.Tr.isNil, Gz.gPlain, Gz.gSeq, Gz.gNx, Gz.gIf, Gz.gYield, Gz.gOut, Gz.gForG, Gz.dGCall, Gz.dListG, Gz.dForG, Gz.GE.at, Dz.dDGet, Dz.rDGet, Dz.dDGet2, Dz.dDIn, Dz.dDSet, Dz.rDSet, Dz.dDF, Dz.dDM, Dz.dD0, Dz.dDc, Dz.rTupU, Dz.dStar, Dz.keyD, Dz.asD, Dz.dExtend, Dz.rExtendD, Dz.dFld, Dz.dSetFld, Dz.dMeth, Dz.dMake, Dz.dDictP, Dz.dDd, Dz.dPairs, Dz.dTab, Dz.dAugS, Dz.dNever, Dz.dIndex, Dz.dIndexT, List.map_cons, List.map_nil, List.length_cons, List.length_nil, List.length_map, List.length_set, List.replicate, Nat.reduceSub, Nat.reduceAdd, List.cons_append, List.nil_append, List.getElem?_cons_zero, List.getElem?_cons_succ, List.set_cons_zero, List.set_cons_succ, if_true, if_false, Bool.false_eq_true, id, Nat.sub_zero, Bool.not_true, Bool.not_false, true_and, and_true, ne_eq, not_false_eq_true, not_true_eq_false, reduceCtorEq, Option.map_some, Option.bind_some, String.reduceBEq, Bool.or_false, Bool.or_true, Bool.false_or, Bool.true_or, Bool.and_true, Bool.and_false, Bool.true_and, Bool.false_and, decide_true, decide_false, List.all_cons, List.all_nil, List.any_cons, List.any_nil, beq_self_eq_true, t_size_or_none]
    exact .of hR
def tr12 (w : D) : Bool := match szN w with
  | some k => decide (1 ≤ k ∧ k ≤ 12)
  | none => false
def spIsTree : SpD := fun ws s R _ => ∃ w m, ws = [w] ∧ Vl w m ∧ R (.bl (tr12 w)) s
theorem e_is_tree : ∀ ws s R, spIsTree ws s R X0 → ws.length = 1 ∧ t_is_tree (spSN 60) { nx := fun _ s' => Lw R .non s', rt := Lw R } (Dz.startD N_is_tree ws) s := by
  rintro ws s R ⟨w, m, rfl, hv, hR⟩
  refine ⟨rfl, ?_⟩
  simp only [Dz.dSeq, Dz.dIf, Dz.dB, Dz.dOp, Dz.dUn, Dz.dVar, Dz.dC, Dz.dRet, Dz.dRetN, Dz.dNx, Dz.dBrk, Dz.dCnt, Dz.dAsg, Dz.dSet, Dz.dPar, Dz.dPar3, Dz.dgT, Dz.dgTt, Dz.dgCons, Dz.dgNil, Dz.dgN, Dz.dCall, Dz.dCons, Dz.dNil, Dz.dTup, Dz.dCB, Dz.dCN, Dz.dF, Dz.dM, Dz.dSz, Dz.dExpr, Dz.dNot, Dz.dAnd, Dz.dOr, Dz.dAndV, Dz.dOrV, Dz.dNotV, Dz.dIfE, Dz.dChain, Dz.dFrz, Dz.dIt, Dz.dRng1, Dz.dRng2, Dz.dSl, Dz.dNoPart, Dz.dPart, Dz.dCat, Dz.dRep, Dz.dLc, Dz.dFor, Dz.dAppend, Dz.dPop, Dz.dPopAt, Dz.rPopAtD, Dz.dSetIx, Dz.dYes, Dz.dRev, Dz.asI, Dz.asQ, Dz.asL, Dz.rIsN, Dz.rIs, Dz.rIsNot, Dz.isNon_d, Dz.isNon_non, Dz.isNon_tup, Dz.isNon_lst, Dz.isNon_str, Dz.isNon_int, Dz.isNon_bl, Dz.isNon_ref, Dz.isNon_dic, Dz.isNon_ty, Dz.rAddU, Dz.rSub, Dz.rMod, Dz.rDiv, Dz.rPow, Dz.rLt, Dz.rLe, Dz.rGt, Dz.rGe, Dz.rEq, Dz.rNe, Dz.rEqv, Dz.rInt2, Dz.rMax2, Dz.rMin2, Dz.rI, Dz.rCmp, Dz.rIxU, Dz.rAbs, Dz.rToInt, Dz.rListU, Dz.rSlU, Dz.trk, Dz.rLenU, Dz.rMulU, Dz.rNeg, Dz.startD, Dz.wipeD, Dz.Tr.d, Dz.Sg.put_M, Dz.Sg.put_n, Dz.Sg.put_pv, Dz.Sg.del_M, Dz.Sg.del_n, Dz.Sg.del_pv, Dz.Mm.put_same, Dz.Mm.put_put, Dz.Sg.put_put, Dz.Mm.put_ne, Dz.Mm.del_ne, Dz.rIsi, Dz.tyN, Dz.tyNames, Dz.isiT, Dz.subT, Dz.tyOk, Dz.tyNames, Dz.pyOf, Dz.toPy, Dz.toPys, Dz.Sg.put_mk, Dz.Sg.del_mk, Dz.spend_M, Dz.spend_pv, Dz.spend_n, Dz.spend_spend, Dz.spend_put, Dz.spend_del, Dz.spNext_iff, Dz.asI_lst, Dz.asI_tup, Dz.dFJ, Dz.dJs, Dz.dFmt, Dz.Tr.isNil, Gz.gPlain, Gz.gSeq, Gz.gNx, Gz.gIf, Gz.gYield, Gz.gOut, Gz.gForG, Gz.dGCall, Gz.dListG, Gz.dForG, Gz.GE.at, Dz.dDGet, Dz.rDGet, Dz.dDGet2, Dz.dDIn, Dz.dDSet, Dz.rDSet, Dz.dDF, Dz.dDM, Dz.dD0, Dz.dDc, Dz.rTupU, Dz.dStar, Dz.keyD, Dz.asD, Dz.dExtend, Dz.rExtendD, Dz.dFld, Dz.dSetFld, Dz.dMeth, Dz.dMake, Dz.dDictP, Dz.dDd, Dz.dPairs, Dz.dTab, Dz.dAugS, Dz.dNever, Dz.dIndex, Dz.dIndexT, List.map_cons, List.map_nil, List.length_cons, List.length_nil, List.length_map, List.length_set, List.replicate, Nat.reduceSub, Nat.reduceAdd, List.cons_append, List.nil_append, List.getElem?_cons_zero, List.getElem?_cons_succ, List.set_cons_zero, List.set_cons_succ, if_true, if_false, Bool.false_eq_true, id, Nat.sub_zero, Bool.not_true, Bool.not_false, true_and, and_true, ne_eq, not_false_eq_true, not_true_eq_false, reduceCtorEq, Option.map_some, Option.bind_some, String.reduceBEq, Bool.or_false, Bool.or_true, Bool.false_or, Bool.true_or, Bool.and_true, Bool.and_false, Bool.true_and, Bool.false_and, decide_true, decide_false, List.all_cons, List.all_nil, List.any_cons, List.any_nil, beq_self_eq_true, t_is_tree]
  refine ⟨w, m, rfl, hv, by have := hv.2.1; omega, ?_⟩
  unfold tr12 at hR
  cases h : szN w with
  | none =>
    rw [h] at hR
    simp only [Dz.dSeq, Dz.dIf, Dz.dB, Dz.dOp, Dz.dUn, Dz.dVar, Dz.dC, Dz.dRet, Dz.dRetN, Dz.dNx, Dz.dBrk, Dz.dCnt, Dz.dAsg, Dz.dSet, Dz.dPar, Dz.dPar3, Dz.dgT, Dz.dgTt, Dz.dgCons, Dz.dgNil, Dz.dgN, Dz.dCall, Dz.dCons, Dz.dNil, Dz.dTup, Dz.dCB, Dz.dCN, Dz.dF, Dz.dM, Dz.dSz, Dz.dExpr, Dz.dNot, Dz.dAnd, Dz.dOr, Dz.dAndV, Dz.dOrV, Dz.dNotV, Dz.dIfE, Dz.dChain, Dz.dFrz, Dz.dIt, Dz.dRng1, Dz.dRng2, Dz.dSl, Dz.dNoPart, Dz.dPart, Dz.dCat, Dz.dRep, Dz.dLc, Dz.dFor, Dz.dAppend, Dz.dPop, Dz.dPopAt, Dz.rPopAtD, Dz.dSetIx, Dz.dYes, Dz.dRev, Dz.asI, Dz.asQ, Dz.asL, Dz.rIsN, Dz.rIs, Dz.rIsNot, Dz.isNon_d, Dz.isNon_non, Dz.isNon_tup, Dz.isNon_lst, Dz.isNon_str, Dz.isNon_int, Dz.isNon_bl, Dz.isNon_ref, Dz.isNon_dic, Dz.isNon_ty, Dz.rAddU, Dz.rSub, Dz.rMod, Dz.rDiv, Dz.rPow, Dz.rLt, Dz.rLe, Dz.rGt, Dz.rGe, Dz.rEq, Dz.rNe, Dz.rEqv, Dz.rInt2, Dz.rMax2, Dz.rMin2, Dz.rI, Dz.rCmp, Dz.rIxU, Dz.rAbs, Dz.rToInt, Dz.rListU, Dz.rSlU, Dz.trk, Dz.rLenU, Dz.rMulU, Dz.rNeg, Dz.startD, Dz.wipeD, Dz.Tr.d, Dz.Sg.put_M, Dz.Sg.put_n, Dz.Sg.put_pv, Dz.Sg.del_M, Dz.Sg.del_n, Dz.Sg.del_pv, Dz.Mm.put_same, Dz.Mm.put_put, Dz.Sg.put_put, Dz.Mm.put_ne, Dz.Mm.del_ne, Dz.rIsi, Dz.tyN, Dz.tyNames, Dz.isiT, Dz.subT, Dz.tyOk, Dz.tyNames, Dz.pyOf, Dz.toPy, Dz.toPys, Dz.Sg.put_mk, Dz.Sg.del_mk, Dz.spend_M, Dz.spend_pv, Dz.spend_n, Dz.spend_spend, Dz.spend_put, Dz.spend_del, Dz.spNext_iff, Dz.asI_lst, Dz.asI_tup, Dz.dFJ, Dz.dJs, Dz.dFmt, Dz.Tr.isNil, Gz.gPlain, Gz.gSeq, Gz.gNx, Gz.gIf, Gz.gYield, Gz.gOut, Gz.gForG, Gz.dGCall, Gz.dListG, Gz.dForG, Gz.GE.at, Dz.dDGet, Dz.rDGet, Dz.dDGet2, Dz.dDIn, Dz.dDSet, Dz.rDSet, Dz.dDF, Dz.dDM, Dz.dD0, Dz.dDc, Dz.rTupU, Dz.dStar, Dz.keyD, Dz.asD, Dz.dExtend, Dz.rExtendD, Dz.dFld, Dz.dSetFld, Dz.dMeth, Dz.dMake, Dz.dDictP, Dz.dDd, Dz.dPairs, Dz.dTab, Dz.dAugS, Dz.dNever, Dz.dIndex, Dz.dIndexT, List.map_cons, List.map_nil, List.length_cons, List.length_nil, List.length_map, List.length_set, List.replicate, Nat.reduceSub, Nat.reduceAdd, List.cons_append, List.nil_append, List.getElem?_cons_zero, List.getElem?_cons_succ, List.set_cons_zero, List.set_cons_succ, if_true, if_false, Bool.false_eq_true, id, Nat.sub_zero, Bool.not_true, Bool.not_false, true_and, and_true, ne_eq, not_false_eq_true, not_true_eq_false, reduceCtorEq, Option.map_some, Option.bind_some, String.reduceBEq, Bool.or_false, Bool.or_true, Bool.false_or, Bool.true_or, Bool.and_true, Bool.and_false, Bool.true_and, Bool.false_and, decide_true, decide_false, List.all_cons, List.all_nil, List.any_cons, List.any_nil, beq_self_eq_true, onD]
    exact .of hR
  | some k =>
    rw [h] at hR
    simp only [Dz.dSeq, Dz.dIf, Dz.dB, Dz.dOp, Dz.dUn, Dz.dVar, Dz.dC, Dz.dRet, Dz.dRetN, Dz.dNx, Dz.dBrk, Dz.dCnt, Dz.dAsg, Dz.dSet, Dz.dPar, Dz.dPar3, Dz.dgT, Dz.dgTt, Dz.dgCons, Dz.dgNil, Dz.dgN, Dz.dCall, Dz.dCons, Dz.dNil, Dz.dTup, Dz.dCB, Dz.dCN, Dz.dF, Dz.dM, Dz.dSz, Dz.dExpr, Dz.dNot, Dz.dAnd, Dz.dOr, Dz.dAndV, Dz.dOrV, Dz.dNotV, Dz.dIfE, Dz.dChain, Dz.dFrz, Dz.dIt, Dz.dRng1, Dz.dRng2, Dz.dSl, Dz.dNoPart, Dz.dPart, Dz.dCat, Dz.dRep, Dz.dLc, Dz.dFor, Dz.dAppend, Dz.dPop, Dz.dPopAt, Dz.rPopAtD, Dz.dSetIx, Dz.dYes, Dz.dRev, Dz.asI, Dz.asQ, Dz.asL, Dz.rIsN, Dz.rIs, Dz.rIsNot, Dz.isNon_d, Dz.isNon_non, Dz.isNon_tup, Dz.isNon_lst, Dz.isNon_str, Dz.isNon_int, Dz.isNon_bl, Dz.isNon_ref, Dz.isNon_dic, Dz.isNon_ty, Dz.rAddU, Dz.rSub, Dz.rMod, Dz.rDiv, Dz.rPow, Dz.rLt, Dz.rLe, Dz.rGt, Dz.rGe, Dz.rEq, Dz.rNe, Dz.rEqv, Dz.rInt2, Dz.rMax2, Dz.rMin2, Dz.rI, Dz.rCmp, Dz.rIxU, Dz.rAbs, Dz.rToInt, Dz.rListU, Dz.rSlU, Dz.trk, Dz.rLenU, Dz.rMulU, Dz.rNeg, Dz.startD, Dz.wipeD, Dz.Tr.d, Dz.Sg.put_M, Dz.Sg.put_n, Dz.Sg.put_pv, Dz.Sg.del_M, Dz.Sg.del_n, Dz.Sg.del_pv, Dz.Mm.put_same, Dz.Mm.put_put, Dz.Sg.put_put, Dz.Mm.put_ne, Dz.Mm.del_ne, Dz.rIsi, Dz.tyN, Dz.tyNames, Dz.isiT, Dz.subT, Dz.tyOk, Dz.tyNames, Dz.pyOf, Dz.toPy, Dz.toPys, Dz.Sg.put_mk, Dz.Sg.del_mk, Dz.spend_M, Dz.spend_pv, Dz.spend_n, Dz.spend_spend, Dz.spend_put, Dz.spend_del, Dz.spNext_iff, Dz.asI_lst, Dz.asI_tup, Dz.dFJ, Dz.dJs, Dz.dFmt, Dz.Tr.isNil, Gz.gPlain, Gz.gSeq, Gz.gNx, Gz.gIf, Gz.gYield, Gz.gOut, Gz.gForG, Gz.dGCall, Gz.dListG, Gz.dForG, Gz.GE.at, Dz.dDGet, Dz.rDGet, Dz.dDGet2, Dz.dDIn, Dz.dDSet, Dz.rDSet, Dz.dDF, Dz.dDM, Dz.dD0, Dz.dDc, Dz.rTupU, Dz.dStar, Dz.keyD, Dz.asD, Dz.dExtend, Dz.rExtendD, Dz.dFld, Dz.dSetFld, Dz.dMeth, Dz.dMake, Dz.dDictP, Dz.dDd, Dz.dPairs, Dz.dTab, Dz.dAugS, Dz.dNever, Dz.dIndex, Dz.dIndexT, List.map_cons, List.map_nil, List.length_cons, List.length_nil, List.length_map, List.length_set, List.replicate, Nat.reduceSub, Nat.reduceAdd, List.cons_append, List.nil_append, List.getElem?_cons_zero, List.getElem?_cons_succ, List.set_cons_zero, List.set_cons_succ, if_true, if_false, Bool.false_eq_true, id, Nat.sub_zero, Bool.not_true, Bool.not_false, true_and, and_true, ne_eq, not_false_eq_true, not_true_eq_false, reduceCtorEq, Option.map_some, Option.bind_some, String.reduceBEq, Bool.or_false, Bool.or_true, Bool.false_or, Bool.true_or, Bool.and_true, Bool.and_false, Bool.true_and, Bool.false_and, decide_true, decide_false, List.all_cons, List.all_nil, List.any_cons, List.any_nil, beq_self_eq_true, onD]
    by_cases h1 : 1 ≤ k
    · have e1 : decide ((1 : Int) ≤ (k : Int)) = true := by rw [decide_eq_true_eq]; omega
      rw [e1]
      simp only [Dz.dSeq, Dz.dIf, Dz.dB, Dz.dOp, Dz.dUn, Dz.dVar, Dz.dC, Dz.dRet, Dz.dRetN, Dz.dNx, Dz.dBrk, Dz.dCnt, Dz.dAsg, Dz.dSet, Dz.dPar, Dz.dPar3, Dz.dgT, Dz.dgTt, Dz.dgCons, Dz.dgNil, Dz.dgN, Dz.dCall, Dz.dCons, Dz.dNil, Dz.dTup, Dz.dCB, Dz.dCN, Dz.dF, Dz.dM, Dz.dSz, Dz.dExpr, Dz.dNot, Dz.dAnd, Dz.dOr, Dz.dAndV, Dz.dOrV, Dz.dNotV, Dz.dIfE, Dz.dChain, Dz.dFrz, Dz.dIt, Dz.dRng1, Dz.dRng2, Dz.dSl, Dz.dNoPart, Dz.dPart, Dz.dCat, Dz.dRep, Dz.dLc, Dz.dFor, Dz.dAppend, Dz.dPop, Dz.dPopAt, Dz.rPopAtD, Dz.dSetIx, Dz.dYes, Dz.dRev, Dz.asI, Dz.asQ, Dz.asL, Dz.rIsN, Dz.rIs, Dz.rIsNot, Dz.isNon_d, Dz.isNon_non, Dz.isNon_tup, Dz.isNon_lst, Dz.isNon_str, Dz.isNon_int, Dz.isNon_bl, Dz.isNon_ref, Dz.isNon_dic, Dz.isNon_ty, Dz.rAddU, Dz.rSub, Dz.rMod, Dz.rDiv, Dz.rPow, Dz.rLt, Dz.rLe, Dz.rGt, Dz.rGe, Dz.rEq, Dz.rNe, Dz.rEqv, Dz.rInt2, Dz.rMax2, Dz.rMin2, Dz.rI, Dz.rCmp, Dz.rIxU, Dz.rAbs, Dz.rToInt, Dz.rListU, Dz.rSlU, Dz.trk, Dz.rLenU, Dz.rMulU, Dz.rNeg, Dz.startD, Dz.wipeD, Dz.Tr.d, Dz.Sg.put_M, Dz.Sg.put_n, Dz.Sg.put_pv, Dz.Sg.del_M, Dz.Sg.del_n, Dz.Sg.del_pv, Dz.Mm.put_same, Dz.Mm.put_put, Dz.Sg.put_put, Dz.Mm.put_ne, Dz.Mm.del_ne, Dz.rIsi, Dz.tyN, Dz.tyNames, Dz.isiT, Dz.subT, Dz.tyOk, Dz.tyNames, Dz.pyOf, Dz.toPy, Dz.toPys, Dz.Sg.put_mk, Dz.Sg.del_mk, Dz.spend_M, Dz.spend_pv, Dz.spend_n, Dz.spend_spend, Dz.spend_put, Dz.spend_del, Dz.spNext_iff, Dz.asI_lst, Dz.asI_tup, Dz.dFJ, Dz.dJs, Dz.dFmt, Dz.Tr.isNil, Gz.gPlain, Gz.gSeq, Gz.gNx, Gz.gIf, Gz.gYield, Gz.gOut, Gz.gForG, Gz.dGCall, Gz.dListG, Gz.dForG, Gz.GE.at, Dz.dDGet, Dz.rDGet, Dz.dDGet2, Dz.dDIn, Dz.dDSet, Dz.rDSet, Dz.dDF, Dz.dDM, Dz.dD0, Dz.dDc, Dz.rTupU, Dz.dStar, Dz.keyD, Dz.asD, Dz.dExtend, Dz.rExtendD, Dz.dFld, Dz.dSetFld, Dz.dMeth, Dz.dMake, Dz.dDictP, Dz.dDd, Dz.dPairs, Dz.dTab, Dz.dAugS, Dz.dNever, Dz.dIndex, Dz.dIndexT, List.map_cons, List.map_nil, List.length_cons, List.length_nil, List.length_map, List.length_set, List.replicate, Nat.reduceSub, Nat.reduceAdd, List.cons_append, List.nil_append, List.getElem?_cons_zero, List.getElem?_cons_succ, List.set_cons_zero, List.set_cons_succ, if_true, if_false, Bool.false_eq_true, id, Nat.sub_zero, Bool.not_true, Bool.not_false, true_and, and_true, ne_eq, not_false_eq_true, not_true_eq_false, reduceCtorEq, Option.map_some, Option.bind_some, String.reduceBEq, Bool.or_false, Bool.or_true, Bool.false_or, Bool.true_or, Bool.and_true, Bool.and_false, Bool.true_and, Bool.false_and, decide_true, decide_false, List.all_cons, List.all_nil, List.any_cons, List.any_nil, beq_self_eq_true]
      refine .of ?_
      have e2 : decide ((k : Int) ≤ 12) = decide (1 ≤ k ∧ k ≤ 12) := by
        apply decide_eq_decide.mpr; omega
      rw [e2]
      exact hR
    · have e1 : decide ((1 : Int) ≤ (k : Int)) = false := by rw [decide_eq_false_iff_not]; omega
      rw [e1]
      simp only [Dz.dSeq, Dz.dIf, Dz.dB, Dz.dOp, Dz.dUn, Dz.dVar, Dz.dC, Dz.dRet, Dz.dRetN, Dz.dNx, Dz.dBrk, Dz.dCnt, Dz.dAsg, Dz.dSet, Dz.dPar, Dz.dPar3, Dz.dgT, Dz.dgTt, Dz.dgCons, Dz.dgNil, Dz.dgN, Dz.dCall, Dz.dCons, Dz.dNil, Dz.dTup, Dz.dCB, Dz.dCN, Dz.dF, Dz.dM, Dz.dSz, Dz.dExpr, Dz.dNot, Dz.dAnd, Dz.dOr, Dz.dAndV, Dz.dOrV, Dz.dNotV, Dz.dIfE, Dz.dChain, Dz.dFrz, Dz.dIt, Dz.dRng1, Dz.dRng2, Dz.dSl, Dz.dNoPart, Dz.dPart, Dz.dCat, Dz.dRep, Dz.dLc, Dz.dFor, Dz.dAppend, Dz.dPop, Dz.dPopAt, Dz.rPopAtD, Dz.dSetIx, Dz.dYes, Dz.dRev, Dz.asI, Dz.asQ, Dz.asL, Dz.rIsN, Dz.rIs, Dz.rIsNot, Dz.isNon_d, Dz.isNon_non, Dz.isNon_tup, Dz.isNon_lst, Dz.isNon_str, Dz.isNon_int, Dz.isNon_bl, Dz.isNon_ref, Dz.isNon_dic, Dz.isNon_ty, Dz.rAddU, Dz.rSub, Dz.rMod, Dz.rDiv, Dz.rPow, Dz.rLt, Dz.rLe, Dz.rGt, Dz.rGe, Dz.rEq, Dz.rNe, Dz.rEqv, Dz.rInt2, Dz.rMax2, Dz.rMin2, Dz.rI, Dz.rCmp, Dz.rIxU, Dz.rAbs, Dz.rToInt, Dz.rListU, Dz.rSlU, Dz.trk, Dz.rLenU, Dz.rMulU, Dz.rNeg, Dz.startD, Dz.wipeD, Dz.Tr.d, Dz.Sg.put_M, Dz.Sg.put_n, Dz.Sg.put_pv, Dz.Sg.del_M, Dz.Sg.del_n, Dz.Sg.del_pv, Dz.Mm.put_same, Dz.Mm.put_put, Dz.Sg.put_put, Dz.Mm.put_ne, Dz.Mm.del_ne, Dz.rIsi, Dz.tyN, Dz.tyNames, Dz.isiT, Dz.subT, Dz.tyOk, Dz.tyNames, Dz.pyOf, Dz.toPy, Dz.toPys, Dz.Sg.put_mk, Dz.Sg.del_mk, Dz.spend_M, Dz.spend_pv, Dz.spend_n, Dz.spend_spend, Dz.spend_put, Dz.spend_del, Dz.spNext_iff, Dz.asI_lst, Dz.asI_tup, Dz.dFJ, Dz.dJs, Dz.dFmt, Dz.Tr.isNil, Gz.gPlain, Gz.gSeq, Gz.gNx, Gz.gIf, Gz.gYield, Gz.gOut, Gz.gForG, Gz.dGCall, Gz.dListG, Gz.dForG, Gz.GE.at, Dz.dDGet, Dz.rDGet, Dz.dDGet2, Dz.dDIn, Dz.dDSet, Dz.rDSet, Dz.dDF, Dz.dDM, Dz.dD0, Dz.dDc, Dz.rTupU, Dz.dStar, Dz.keyD, Dz.asD, Dz.dExtend, Dz.rExtendD, Dz.dFld, Dz.dSetFld, Dz.dMeth, Dz.dMake, Dz.dDictP, Dz.dDd, Dz.dPairs, Dz.dTab, Dz.dAugS, Dz.dNever, Dz.dIndex, Dz.dIndexT, List.map_cons, List.map_nil, List.length_cons, List.length_nil, List.length_map, List.length_set, List.replicate, Nat.reduceSub, Nat.reduceAdd, List.cons_append, List.nil_append, List.getElem?_cons_zero, List.getElem?_cons_succ, List.set_cons_zero, List.set_cons_succ, if_true, if_false, Bool.false_eq_true, id, Nat.sub_zero, Bool.not_true, Bool.not_false, true_and, and_true, ne_eq, not_false_eq_true, not_true_eq_false, reduceCtorEq, Option.map_some, Option.bind_some, String.reduceBEq, Bool.or_false, Bool.or_true, Bool.false_or, Bool.true_or, Bool.and_true, Bool.and_false, Bool.true_and, Bool.false_and, decide_true, decide_false, List.all_cons, List.all_nil, List.any_cons, List.any_nil, beq_self_eq_true]
      have e2 : decide (1 ≤ k ∧ k ≤ 12) = false := by rw [decide_eq_false_iff_not]; omega
      dsimp only at hR
      rw [e2] at hR
      exact .of hR
def cnD : Option Nat → Int
  | none => -1
  | some k => k
theorem cnD_neg {o : Option Nat} : decide (cnD o < 0) = o.isNone := by
  cases o with
  | none => rfl
  | some k =>
    show decide ((k : Int) < 0) = false
    rw [decide_eq_false_iff_not]; omega
def spCount (n : Nat) : SpD := fun ws s R _ => ∃ w m, ws = [w] ∧ Vl w m ∧ m < n ∧ R (.int (cnD (szN w))) s
theorem ltrS_mem (x : Str) : decide (x ∈ abc.map fun c => (⟨#[c]⟩ : Str)) = ltrS x := by
  by_cases h1 : x.length = 1
  · obtain ⟨c, rfl⟩ := str1 h1
    show _ = decide (c ∈ abc)
    apply decide_eq_decide.mpr
    constructor
    · intro h
      obtain ⟨d, hd, e⟩ := List.mem_map.mp h
      injection e with e
      simp at e
      rw [← e]; exact hd
    · intro h
      exact List.mem_map.mpr ⟨c, h, rfl⟩
  · rw [ltrS_no h1, decide_eq_false_iff_not]
    intro h
    obtain ⟨d, hd, e⟩ := List.mem_map.mp h
    rw [← e] at h1
    exact h1 rfl
theorem e_law_count (n : Nat) : ∀ ws s R, spCount (n + 1) ws s R X0 → ws.length = 1 ∧ t_law_count (spCount n) { nx := fun _ s' => Lw R .non s', rt := Lw R } (Dz.startD N_law_count ws) s := by
  rintro ws s R ⟨w, m, rfl, hv, hm, hR⟩
  refine ⟨rfl, ?_⟩
  have hg := hv.1
  cases w with
  | tup ws =>
    simp only [Dz.dSeq, Dz.dIf, Dz.dB, Dz.dOp, Dz.dUn, Dz.dVar, Dz.dC, Dz.dRet, Dz.dRetN, Dz.dNx, Dz.dBrk, Dz.dCnt, Dz.dAsg, Dz.dSet, Dz.dPar, Dz.dPar3, Dz.dgT, Dz.dgTt, Dz.dgCons, Dz.dgNil, Dz.dgN, Dz.dCall, Dz.dCons, Dz.dNil, Dz.dTup, Dz.dCB, Dz.dCN, Dz.dF, Dz.dM, Dz.dSz, Dz.dExpr, Dz.dNot, Dz.dAnd, Dz.dOr, Dz.dAndV, Dz.dOrV, Dz.dNotV, Dz.dIfE, Dz.dChain, Dz.dFrz, Dz.dIt, Dz.dRng1, Dz.dRng2, Dz.dSl, Dz.dNoPart, Dz.dPart, Dz.dCat, Dz.dRep, Dz.dLc, Dz.dFor, Dz.dAppend, Dz.dPop, Dz.dPopAt, Dz.rPopAtD, Dz.dSetIx, Dz.dYes, Dz.dRev, Dz.asI, Dz.asQ, Dz.asL, Dz.rIsN, Dz.rIs, Dz.rIsNot, Dz.isNon_d, Dz.isNon_non, Dz.isNon_tup, Dz.isNon_lst, Dz.isNon_str, Dz.isNon_int, Dz.isNon_bl, Dz.isNon_ref, Dz.isNon_dic, Dz.isNon_ty, Dz.rAddU, Dz.rSub, Dz.rMod, Dz.rDiv, Dz.rPow, Dz.rLt, Dz.rLe, Dz.rGt, Dz.rGe, Dz.rEq, Dz.rNe, Dz.rEqv, Dz.rInt2, Dz.rMax2, Dz.rMin2, Dz.rI, Dz.rCmp, Dz.rIxU, Dz.rAbs, Dz.rToInt, Dz.rListU, Dz.rSlU, Dz.trk, Dz.rLenU, Dz.rMulU, Dz.rNeg, Dz.startD, Dz.wipeD, Dz.Tr.d, Dz.Sg.put_M, Dz.Sg.put_n, Dz.Sg.put_pv, Dz.Sg.del_M, Dz.Sg.del_n, Dz.Sg.del_pv, Dz.Mm.put_same, Dz.Mm.put_put, Dz.Sg.put_put, Dz.Mm.put_ne, Dz.Mm.del_ne, Dz.rIsi, Dz.tyN, Dz.tyNames, Dz.isiT, Dz.subT, Dz.tyOk, Dz.tyNames, Dz.pyOf, Dz.toPy, Dz.toPys, Dz.Sg.put_mk, Dz.Sg.del_mk, Dz.spend_M, Dz.spend_pv, Dz.spend_n, Dz.spend_spend, Dz.spend_put, Dz.spend_del, Dz.spNext_iff, Dz.asI_lst, Dz.asI_tup, Dz.dFJ, Dz.dJs, Dz.dFmt, Dz.Tr.isNil, Gz.gPlain, Gz.gSeq, Gz.gNx, Gz.gIf, Gz.gYield, Gz.gOut, Gz.gForG, Gz.dGCall, Gz.dListG, Gz.dForG, Gz.GE.at, Dz.dDGet, Dz.rDGet, Dz.dDGet2, Dz.dDIn, Dz.dDSet, Dz.rDSet, Dz.dDF, Dz.dDM, Dz.dD0, Dz.dDc, Dz.rTupU, Dz.dStar, Dz.keyD, Dz.asD, Dz.dExtend, Dz.rExtendD, Dz.dFld, Dz.dSetFld, Dz.dMeth, Dz.dMake, Dz.dDictP, Dz.dDd, Dz.dPairs, Dz.dTab, Dz.dAugS, Dz.dNever, Dz.dIndex, Dz.dIndexT, List.map_cons, List.map_nil, List.length_cons, List.length_nil, List.length_map, List.length_set, List.replicate, Nat.reduceSub, Nat.reduceAdd, List.cons_append, List.nil_append, List.getElem?_cons_zero, List.getElem?_cons_succ, List.set_cons_zero, List.set_cons_succ, if_true, if_false, Bool.false_eq_true, id, Nat.sub_zero, Bool.not_true, Bool.not_false, true_and, and_true, ne_eq, not_false_eq_true, not_true_eq_false, reduceCtorEq, Option.map_some, Option.bind_some, String.reduceBEq, Bool.or_false, Bool.or_true, Bool.false_or, Bool.true_or, Bool.and_true, Bool.and_false, Bool.true_and, Bool.false_and, decide_true, decide_false, List.all_cons, List.all_nil, List.any_cons, List.any_nil, beq_self_eq_true, t_law_count]
    by_cases h3 : ws.length = 3
    · obtain ⟨l, x, r, rfl⟩ : ∃ l x r, ws = [l, x, r] := by
        match ws, h3 with
        | [l, x, r], _ => exact ⟨l, x, r, rfl⟩
      have i0 : L2.atI [l, x, r] 0 = some l := rfl
      have i1 : L2.atI [l, x, r] 1 = some x := rfl
      have i2 : L2.atI [l, x, r] 2 = some r := rfl
      obtain ⟨m0, vl⟩ := hv.mem (w := l) (by simp)
      obtain ⟨_, vx⟩ := hv.mem (w := x) (by simp)
      obtain ⟨_, vr⟩ := hv.mem (w := r) (by simp)
      simp only [Dz.dSeq, Dz.dIf, Dz.dB, Dz.dOp, Dz.dUn, Dz.dVar, Dz.dC, Dz.dRet, Dz.dRetN, Dz.dNx, Dz.dBrk, Dz.dCnt, Dz.dAsg, Dz.dSet, Dz.dPar, Dz.dPar3, Dz.dgT, Dz.dgTt, Dz.dgCons, Dz.dgNil, Dz.dgN, Dz.dCall, Dz.dCons, Dz.dNil, Dz.dTup, Dz.dCB, Dz.dCN, Dz.dF, Dz.dM, Dz.dSz, Dz.dExpr, Dz.dNot, Dz.dAnd, Dz.dOr, Dz.dAndV, Dz.dOrV, Dz.dNotV, Dz.dIfE, Dz.dChain, Dz.dFrz, Dz.dIt, Dz.dRng1, Dz.dRng2, Dz.dSl, Dz.dNoPart, Dz.dPart, Dz.dCat, Dz.dRep, Dz.dLc, Dz.dFor, Dz.dAppend, Dz.dPop, Dz.dPopAt, Dz.rPopAtD, Dz.dSetIx, Dz.dYes, Dz.dRev, Dz.asI, Dz.asQ, Dz.asL, Dz.rIsN, Dz.rIs, Dz.rIsNot, Dz.isNon_d, Dz.isNon_non, Dz.isNon_tup, Dz.isNon_lst, Dz.isNon_str, Dz.isNon_int, Dz.isNon_bl, Dz.isNon_ref, Dz.isNon_dic, Dz.isNon_ty, Dz.rAddU, Dz.rSub, Dz.rMod, Dz.rDiv, Dz.rPow, Dz.rLt, Dz.rLe, Dz.rGt, Dz.rGe, Dz.rEq, Dz.rNe, Dz.rEqv, Dz.rInt2, Dz.rMax2, Dz.rMin2, Dz.rI, Dz.rCmp, Dz.rIxU, Dz.rAbs, Dz.rToInt, Dz.rListU, Dz.rSlU, Dz.trk, Dz.rLenU, Dz.rMulU, Dz.rNeg, Dz.startD, Dz.wipeD, Dz.Tr.d, Dz.Sg.put_M, Dz.Sg.put_n, Dz.Sg.put_pv, Dz.Sg.del_M, Dz.Sg.del_n, Dz.Sg.del_pv, Dz.Mm.put_same, Dz.Mm.put_put, Dz.Sg.put_put, Dz.Mm.put_ne, Dz.Mm.del_ne, Dz.rIsi, Dz.tyN, Dz.tyNames, Dz.isiT, Dz.subT, Dz.tyOk, Dz.tyNames, Dz.pyOf, Dz.toPy, Dz.toPys, Dz.Sg.put_mk, Dz.Sg.del_mk, Dz.spend_M, Dz.spend_pv, Dz.spend_n, Dz.spend_spend, Dz.spend_put, Dz.spend_del, Dz.spNext_iff, Dz.asI_lst, Dz.asI_tup, Dz.dFJ, Dz.dJs, Dz.dFmt, Dz.Tr.isNil, Gz.gPlain, Gz.gSeq, Gz.gNx, Gz.gIf, Gz.gYield, Gz.gOut, Gz.gForG, Gz.dGCall, Gz.dListG, Gz.dForG, Gz.GE.at, Dz.dDGet, Dz.rDGet, Dz.dDGet2, Dz.dDIn, Dz.dDSet, Dz.rDSet, Dz.dDF, Dz.dDM, Dz.dD0, Dz.dDc, Dz.rTupU, Dz.dStar, Dz.keyD, Dz.asD, Dz.dExtend, Dz.rExtendD, Dz.dFld, Dz.dSetFld, Dz.dMeth, Dz.dMake, Dz.dDictP, Dz.dDd, Dz.dPairs, Dz.dTab, Dz.dAugS, Dz.dNever, Dz.dIndex, Dz.dIndexT, List.map_cons, List.map_nil, List.length_cons, List.length_nil, List.length_map, List.length_set, List.replicate, Nat.reduceSub, Nat.reduceAdd, List.cons_append, List.nil_append, List.getElem?_cons_zero, List.getElem?_cons_succ, List.set_cons_zero, List.set_cons_succ, if_true, if_false, Bool.false_eq_true, id, Nat.sub_zero, Bool.not_true, Bool.not_false, true_and, and_true, ne_eq, not_false_eq_true, not_true_eq_false, reduceCtorEq, Option.map_some, Option.bind_some, String.reduceBEq, Bool.or_false, Bool.or_true, Bool.false_or, Bool.true_or, Bool.and_true, Bool.and_false, Bool.true_and, Bool.false_and, decide_true, decide_false, List.all_cons, List.all_nil, List.any_cons, List.any_nil, beq_self_eq_true, i0, i1, i2]
      rw [szN_tup] at hR
      have hgx := vx.1
      cases x with
      | str x =>
        simp only [Dz.dSeq, Dz.dIf, Dz.dB, Dz.dOp, Dz.dUn, Dz.dVar, Dz.dC, Dz.dRet, Dz.dRetN, Dz.dNx, Dz.dBrk, Dz.dCnt, Dz.dAsg, Dz.dSet, Dz.dPar, Dz.dPar3, Dz.dgT, Dz.dgTt, Dz.dgCons, Dz.dgNil, Dz.dgN, Dz.dCall, Dz.dCons, Dz.dNil, Dz.dTup, Dz.dCB, Dz.dCN, Dz.dF, Dz.dM, Dz.dSz, Dz.dExpr, Dz.dNot, Dz.dAnd, Dz.dOr, Dz.dAndV, Dz.dOrV, Dz.dNotV, Dz.dIfE, Dz.dChain, Dz.dFrz, Dz.dIt, Dz.dRng1, Dz.dRng2, Dz.dSl, Dz.dNoPart, Dz.dPart, Dz.dCat, Dz.dRep, Dz.dLc, Dz.dFor, Dz.dAppend, Dz.dPop, Dz.dPopAt, Dz.rPopAtD, Dz.dSetIx, Dz.dYes, Dz.dRev, Dz.asI, Dz.asQ, Dz.asL, Dz.rIsN, Dz.rIs, Dz.rIsNot, Dz.isNon_d, Dz.isNon_non, Dz.isNon_tup, Dz.isNon_lst, Dz.isNon_str, Dz.isNon_int, Dz.isNon_bl, Dz.isNon_ref, Dz.isNon_dic, Dz.isNon_ty, Dz.rAddU, Dz.rSub, Dz.rMod, Dz.rDiv, Dz.rPow, Dz.rLt, Dz.rLe, Dz.rGt, Dz.rGe, Dz.rEq, Dz.rNe, Dz.rEqv, Dz.rInt2, Dz.rMax2, Dz.rMin2, Dz.rI, Dz.rCmp, Dz.rIxU, Dz.rAbs, Dz.rToInt, Dz.rListU, Dz.rSlU, Dz.trk, Dz.rLenU, Dz.rMulU, Dz.rNeg, Dz.startD, Dz.wipeD, Dz.Tr.d, Dz.Sg.put_M, Dz.Sg.put_n, Dz.Sg.put_pv, Dz.Sg.del_M, Dz.Sg.del_n, Dz.Sg.del_pv, Dz.Mm.put_same, Dz.Mm.put_put, Dz.Sg.put_put, Dz.Mm.put_ne, Dz.Mm.del_ne, Dz.rIsi, Dz.tyN, Dz.tyNames, Dz.isiT, Dz.subT, Dz.tyOk, Dz.tyNames, Dz.pyOf, Dz.toPy, Dz.toPys, Dz.Sg.put_mk, Dz.Sg.del_mk, Dz.spend_M, Dz.spend_pv, Dz.spend_n, Dz.spend_spend, Dz.spend_put, Dz.spend_del, Dz.spNext_iff, Dz.asI_lst, Dz.asI_tup, Dz.dFJ, Dz.dJs, Dz.dFmt, Dz.Tr.isNil, Gz.gPlain, Gz.gSeq, Gz.gNx, Gz.gIf, Gz.gYield, Gz.gOut, Gz.gForG, Gz.dGCall, Gz.dListG, Gz.dForG, Gz.GE.at, Dz.dDGet, Dz.rDGet, Dz.dDGet2, Dz.dDIn, Dz.dDSet, Dz.rDSet, Dz.dDF, Dz.dDM, Dz.dD0, Dz.dDc, Dz.rTupU, Dz.dStar, Dz.keyD, Dz.asD, Dz.dExtend, Dz.rExtendD, Dz.dFld, Dz.dSetFld, Dz.dMeth, Dz.dMake, Dz.dDictP, Dz.dDd, Dz.dPairs, Dz.dTab, Dz.dAugS, Dz.dNever, Dz.dIndex, Dz.dIndexT, List.map_cons, List.map_nil, List.length_cons, List.length_nil, List.length_map, List.length_set, List.replicate, Nat.reduceSub, Nat.reduceAdd, List.cons_append, List.nil_append, List.getElem?_cons_zero, List.getElem?_cons_succ, List.set_cons_zero, List.set_cons_succ, if_true, if_false, Bool.false_eq_true, id, Nat.sub_zero, Bool.not_true, Bool.not_false, true_and, and_true, ne_eq, not_false_eq_true, not_true_eq_false, reduceCtorEq, Option.map_some, Option.bind_some, String.reduceBEq, Bool.or_false, Bool.or_true, Bool.false_or, Bool.true_or, Bool.and_true, Bool.and_false, Bool.true_and, Bool.false_and, decide_true, decide_false, List.all_cons, List.all_nil, List.any_cons, List.any_nil, beq_self_eq_true]
        refine ⟨l, m - 1, rfl, vl, by omega, r, m - 1, rfl, vr, by omega, ?_⟩
        simp only [Dz.dSeq, Dz.dIf, Dz.dB, Dz.dOp, Dz.dUn, Dz.dVar, Dz.dC, Dz.dRet, Dz.dRetN, Dz.dNx, Dz.dBrk, Dz.dCnt, Dz.dAsg, Dz.dSet, Dz.dPar, Dz.dPar3, Dz.dgT, Dz.dgTt, Dz.dgCons, Dz.dgNil, Dz.dgN, Dz.dCall, Dz.dCons, Dz.dNil, Dz.dTup, Dz.dCB, Dz.dCN, Dz.dF, Dz.dM, Dz.dSz, Dz.dExpr, Dz.dNot, Dz.dAnd, Dz.dOr, Dz.dAndV, Dz.dOrV, Dz.dNotV, Dz.dIfE, Dz.dChain, Dz.dFrz, Dz.dIt, Dz.dRng1, Dz.dRng2, Dz.dSl, Dz.dNoPart, Dz.dPart, Dz.dCat, Dz.dRep, Dz.dLc, Dz.dFor, Dz.dAppend, Dz.dPop, Dz.dPopAt, Dz.rPopAtD, Dz.dSetIx, Dz.dYes, Dz.dRev, Dz.asI, Dz.asQ, Dz.asL, Dz.rIsN, Dz.rIs, Dz.rIsNot, Dz.isNon_d, Dz.isNon_non, Dz.isNon_tup, Dz.isNon_lst, Dz.isNon_str, Dz.isNon_int, Dz.isNon_bl, Dz.isNon_ref, Dz.isNon_dic, Dz.isNon_ty, Dz.rAddU, Dz.rSub, Dz.rMod, Dz.rDiv, Dz.rPow, Dz.rLt, Dz.rLe, Dz.rGt, Dz.rGe, Dz.rEq, Dz.rNe, Dz.rEqv, Dz.rInt2, Dz.rMax2, Dz.rMin2, Dz.rI, Dz.rCmp, Dz.rIxU, Dz.rAbs, Dz.rToInt, Dz.rListU, Dz.rSlU, Dz.trk, Dz.rLenU, Dz.rMulU, Dz.rNeg, Dz.startD, Dz.wipeD, Dz.Tr.d, Dz.Sg.put_M, Dz.Sg.put_n, Dz.Sg.put_pv, Dz.Sg.del_M, Dz.Sg.del_n, Dz.Sg.del_pv, Dz.Mm.put_same, Dz.Mm.put_put, Dz.Sg.put_put, Dz.Mm.put_ne, Dz.Mm.del_ne, Dz.rIsi, Dz.tyN, Dz.tyNames, Dz.isiT, Dz.subT, Dz.tyOk, Dz.tyNames, Dz.pyOf, Dz.toPy, Dz.toPys, Dz.Sg.put_mk, Dz.Sg.del_mk, Dz.spend_M, Dz.spend_pv, Dz.spend_n, Dz.spend_spend, Dz.spend_put, Dz.spend_del, Dz.spNext_iff, Dz.asI_lst, Dz.asI_tup, Dz.dFJ, Dz.dJs, Dz.dFmt, Dz.Tr.isNil, Gz.gPlain, Gz.gSeq, Gz.gNx, Gz.gIf, Gz.gYield, Gz.gOut, Gz.gForG, Gz.dGCall, Gz.dListG, Gz.dForG, Gz.GE.at, Dz.dDGet, Dz.rDGet, Dz.dDGet2, Dz.dDIn, Dz.dDSet, Dz.rDSet, Dz.dDF, Dz.dDM, Dz.dD0, Dz.dDc, Dz.rTupU, Dz.dStar, Dz.keyD, Dz.asD, Dz.dExtend, Dz.rExtendD, Dz.dFld, Dz.dSetFld, Dz.dMeth, Dz.dMake, Dz.dDictP, Dz.dDd, Dz.dPairs, Dz.dTab, Dz.dAugS, Dz.dNever, Dz.dIndex, Dz.dIndexT, List.map_cons, List.map_nil, List.length_cons, List.length_nil, List.length_map, List.length_set, List.replicate, Nat.reduceSub, Nat.reduceAdd, List.cons_append, List.nil_append, List.getElem?_cons_zero, List.getElem?_cons_succ, List.set_cons_zero, List.set_cons_succ, if_true, if_false, Bool.false_eq_true, id, Nat.sub_zero, Bool.not_true, Bool.not_false, true_and, and_true, ne_eq, not_false_eq_true, not_true_eq_false, reduceCtorEq, Option.map_some, Option.bind_some, String.reduceBEq, Bool.or_false, Bool.or_true, Bool.false_or, Bool.true_or, Bool.and_true, Bool.and_false, Bool.true_and, Bool.false_and, decide_true, decide_false, List.all_cons, List.all_nil, List.any_cons, List.any_nil, beq_self_eq_true, cnD_neg, abc_eq, abc_len]
        cases ha : szN l with
        | none =>
          rw [ha] at hR
          have hR' : R (.int (-1)) s := by
            split at hR
            · exact hR
            · exact hR
          simp only [Dz.dSeq, Dz.dIf, Dz.dB, Dz.dOp, Dz.dUn, Dz.dVar, Dz.dC, Dz.dRet, Dz.dRetN, Dz.dNx, Dz.dBrk, Dz.dCnt, Dz.dAsg, Dz.dSet, Dz.dPar, Dz.dPar3, Dz.dgT, Dz.dgTt, Dz.dgCons, Dz.dgNil, Dz.dgN, Dz.dCall, Dz.dCons, Dz.dNil, Dz.dTup, Dz.dCB, Dz.dCN, Dz.dF, Dz.dM, Dz.dSz, Dz.dExpr, Dz.dNot, Dz.dAnd, Dz.dOr, Dz.dAndV, Dz.dOrV, Dz.dNotV, Dz.dIfE, Dz.dChain, Dz.dFrz, Dz.dIt, Dz.dRng1, Dz.dRng2, Dz.dSl, Dz.dNoPart, Dz.dPart, Dz.dCat, Dz.dRep, Dz.dLc, Dz.dFor, Dz.dAppend, Dz.dPop, Dz.dPopAt, Dz.rPopAtD, Dz.dSetIx, Dz.dYes, Dz.dRev, Dz.asI, Dz.asQ, Dz.asL, Dz.rIsN, Dz.rIs, Dz.rIsNot, Dz.isNon_d, Dz.isNon_non, Dz.isNon_tup, Dz.isNon_lst, Dz.isNon_str, Dz.isNon_int, Dz.isNon_bl, Dz.isNon_ref, Dz.isNon_dic, Dz.isNon_ty, Dz.rAddU, Dz.rSub, Dz.rMod, Dz.rDiv, Dz.rPow, Dz.rLt, Dz.rLe, Dz.rGt, Dz.rGe, Dz.rEq, Dz.rNe, Dz.rEqv, Dz.rInt2, Dz.rMax2, Dz.rMin2, Dz.rI, Dz.rCmp, Dz.rIxU, Dz.rAbs, Dz.rToInt, Dz.rListU, Dz.rSlU, Dz.trk, Dz.rLenU, Dz.rMulU, Dz.rNeg, Dz.startD, Dz.wipeD, Dz.Tr.d, Dz.Sg.put_M, Dz.Sg.put_n, Dz.Sg.put_pv, Dz.Sg.del_M, Dz.Sg.del_n, Dz.Sg.del_pv, Dz.Mm.put_same, Dz.Mm.put_put, Dz.Sg.put_put, Dz.Mm.put_ne, Dz.Mm.del_ne, Dz.rIsi, Dz.tyN, Dz.tyNames, Dz.isiT, Dz.subT, Dz.tyOk, Dz.tyNames, Dz.pyOf, Dz.toPy, Dz.toPys, Dz.Sg.put_mk, Dz.Sg.del_mk, Dz.spend_M, Dz.spend_pv, Dz.spend_n, Dz.spend_spend, Dz.spend_put, Dz.spend_del, Dz.spNext_iff, Dz.asI_lst, Dz.asI_tup, Dz.dFJ, Dz.dJs, Dz.dFmt, Dz.Tr.isNil, Gz.gPlain, Gz.gSeq, Gz.gNx, Gz.gIf, Gz.gYield, Gz.gOut, Gz.gForG, Gz.dGCall, Gz.dListG, Gz.dForG, Gz.GE.at, Dz.dDGet, Dz.rDGet, Dz.dDGet2, Dz.dDIn, Dz.dDSet, Dz.rDSet, Dz.dDF, Dz.dDM, Dz.dD0, Dz.dDc, Dz.rTupU, Dz.dStar, Dz.keyD, Dz.asD, Dz.dExtend, Dz.rExtendD, Dz.dFld, Dz.dSetFld, Dz.dMeth, Dz.dMake, Dz.dDictP, Dz.dDd, Dz.dPairs, Dz.dTab, Dz.dAugS, Dz.dNever, Dz.dIndex, Dz.dIndexT, List.map_cons, List.map_nil, List.length_cons, List.length_nil, List.length_map, List.length_set, List.replicate, Nat.reduceSub, Nat.reduceAdd, List.cons_append, List.nil_append, List.getElem?_cons_zero, List.getElem?_cons_succ, List.set_cons_zero, List.set_cons_succ, if_true, if_false, Bool.false_eq_true, id, Nat.sub_zero, Bool.not_true, Bool.not_false, true_and, and_true, ne_eq, not_false_eq_true, not_true_eq_false, reduceCtorEq, Option.map_some, Option.bind_some, String.reduceBEq, Bool.or_false, Bool.or_true, Bool.false_or, Bool.true_or, Bool.and_true, Bool.and_false, Bool.true_and, Bool.false_and, decide_true, decide_false, List.all_cons, List.all_nil, List.any_cons, List.any_nil, beq_self_eq_true, Option.isNone_none]
          exact .of hR'
        | some a =>
          cases hb : szN r with
          | none =>
            rw [ha, hb] at hR
            have hR' : R (.int (-1)) s := by
              split at hR
              · exact hR
              · exact hR
            simp only [Dz.dSeq, Dz.dIf, Dz.dB, Dz.dOp, Dz.dUn, Dz.dVar, Dz.dC, Dz.dRet, Dz.dRetN, Dz.dNx, Dz.dBrk, Dz.dCnt, Dz.dAsg, Dz.dSet, Dz.dPar, Dz.dPar3, Dz.dgT, Dz.dgTt, Dz.dgCons, Dz.dgNil, Dz.dgN, Dz.dCall, Dz.dCons, Dz.dNil, Dz.dTup, Dz.dCB, Dz.dCN, Dz.dF, Dz.dM, Dz.dSz, Dz.dExpr, Dz.dNot, Dz.dAnd, Dz.dOr, Dz.dAndV, Dz.dOrV, Dz.dNotV, Dz.dIfE, Dz.dChain, Dz.dFrz, Dz.dIt, Dz.dRng1, Dz.dRng2, Dz.dSl, Dz.dNoPart, Dz.dPart, Dz.dCat, Dz.dRep, Dz.dLc, Dz.dFor, Dz.dAppend, Dz.dPop, Dz.dPopAt, Dz.rPopAtD, Dz.dSetIx, Dz.dYes, Dz.dRev, Dz.asI, Dz.asQ, Dz.asL, Dz.rIsN, Dz.rIs, Dz.rIsNot, Dz.isNon_d, Dz.isNon_non, Dz.isNon_tup, Dz.isNon_lst, Dz.isNon_str, Dz.isNon_int, Dz.isNon_bl, Dz.isNon_ref, Dz.isNon_dic, Dz.isNon_ty, Dz.rAddU, Dz.rSub, Dz.rMod, Dz.rDiv, Dz.rPow, Dz.rLt, Dz.rLe, Dz.rGt, Dz.rGe, Dz.rEq, Dz.rNe, Dz.rEqv, Dz.rInt2, Dz.rMax2, Dz.rMin2, Dz.rI, Dz.rCmp, Dz.rIxU, Dz.rAbs, Dz.rToInt, Dz.rListU, Dz.rSlU, Dz.trk, Dz.rLenU, Dz.rMulU, Dz.rNeg, Dz.startD, Dz.wipeD, Dz.Tr.d, Dz.Sg.put_M, Dz.Sg.put_n, Dz.Sg.put_pv, Dz.Sg.del_M, Dz.Sg.del_n, Dz.Sg.del_pv, Dz.Mm.put_same, Dz.Mm.put_put, Dz.Sg.put_put, Dz.Mm.put_ne, Dz.Mm.del_ne, Dz.rIsi, Dz.tyN, Dz.tyNames, Dz.isiT, Dz.subT, Dz.tyOk, Dz.tyNames, Dz.pyOf, Dz.toPy, Dz.toPys, Dz.Sg.put_mk, Dz.Sg.del_mk, Dz.spend_M, Dz.spend_pv, Dz.spend_n, Dz.spend_spend, Dz.spend_put, Dz.spend_del, Dz.spNext_iff, Dz.asI_lst, Dz.asI_tup, Dz.dFJ, Dz.dJs, Dz.dFmt, Dz.Tr.isNil, Gz.gPlain, Gz.gSeq, Gz.gNx, Gz.gIf, Gz.gYield, Gz.gOut, Gz.gForG, Gz.dGCall, Gz.dListG, Gz.dForG, Gz.GE.at, Dz.dDGet, Dz.rDGet, Dz.dDGet2, Dz.dDIn, Dz.dDSet, Dz.rDSet, Dz.dDF, Dz.dDM, Dz.dD0, Dz.dDc, Dz.rTupU, Dz.dStar, Dz.keyD, Dz.asD, Dz.dExtend, Dz.rExtendD, Dz.dFld, Dz.dSetFld, Dz.dMeth, Dz.dMake, Dz.dDictP, Dz.dDd, Dz.dPairs, Dz.dTab, Dz.dAugS, Dz.dNever, Dz.dIndex, Dz.dIndexT, List.map_cons, List.map_nil, List.length_cons, List.length_nil, List.length_map, List.length_set, List.replicate, Nat.reduceSub, Nat.reduceAdd, List.cons_append, List.nil_append, List.getElem?_cons_zero, List.getElem?_cons_succ, List.set_cons_zero, List.set_cons_succ, if_true, if_false, Bool.false_eq_true, id, Nat.sub_zero, Bool.not_true, Bool.not_false, true_and, and_true, ne_eq, not_false_eq_true, not_true_eq_false, reduceCtorEq, Option.map_some, Option.bind_some, String.reduceBEq, Bool.or_false, Bool.or_true, Bool.false_or, Bool.true_or, Bool.and_true, Bool.and_false, Bool.true_and, Bool.false_and, decide_true, decide_false, List.all_cons, List.all_nil, List.any_cons, List.any_nil, beq_self_eq_true, Option.isNone_none, Option.isNone_some]
            exact .of hR'
          | some b =>
            rw [ha, hb] at hR
            simp only [Dz.dSeq, Dz.dIf, Dz.dB, Dz.dOp, Dz.dUn, Dz.dVar, Dz.dC, Dz.dRet, Dz.dRetN, Dz.dNx, Dz.dBrk, Dz.dCnt, Dz.dAsg, Dz.dSet, Dz.dPar, Dz.dPar3, Dz.dgT, Dz.dgTt, Dz.dgCons, Dz.dgNil, Dz.dgN, Dz.dCall, Dz.dCons, Dz.dNil, Dz.dTup, Dz.dCB, Dz.dCN, Dz.dF, Dz.dM, Dz.dSz, Dz.dExpr, Dz.dNot, Dz.dAnd, Dz.dOr, Dz.dAndV, Dz.dOrV, Dz.dNotV, Dz.dIfE, Dz.dChain, Dz.dFrz, Dz.dIt, Dz.dRng1, Dz.dRng2, Dz.dSl, Dz.dNoPart, Dz.dPart, Dz.dCat, Dz.dRep, Dz.dLc, Dz.dFor, Dz.dAppend, Dz.dPop, Dz.dPopAt, Dz.rPopAtD, Dz.dSetIx, Dz.dYes, Dz.dRev, Dz.asI, Dz.asQ, Dz.asL, Dz.rIsN, Dz.rIs, Dz.rIsNot, Dz.isNon_d, Dz.isNon_non, Dz.isNon_tup, Dz.isNon_lst, Dz.isNon_str, Dz.isNon_int, Dz.isNon_bl, Dz.isNon_ref, Dz.isNon_dic, Dz.isNon_ty, Dz.rAddU, Dz.rSub, Dz.rMod, Dz.rDiv, Dz.rPow, Dz.rLt, Dz.rLe, Dz.rGt, Dz.rGe, Dz.rEq, Dz.rNe, Dz.rEqv, Dz.rInt2, Dz.rMax2, Dz.rMin2, Dz.rI, Dz.rCmp, Dz.rIxU, Dz.rAbs, Dz.rToInt, Dz.rListU, Dz.rSlU, Dz.trk, Dz.rLenU, Dz.rMulU, Dz.rNeg, Dz.startD, Dz.wipeD, Dz.Tr.d, Dz.Sg.put_M, Dz.Sg.put_n, Dz.Sg.put_pv, Dz.Sg.del_M, Dz.Sg.del_n, Dz.Sg.del_pv, Dz.Mm.put_same, Dz.Mm.put_put, Dz.Sg.put_put, Dz.Mm.put_ne, Dz.Mm.del_ne, Dz.rIsi, Dz.tyN, Dz.tyNames, Dz.isiT, Dz.subT, Dz.tyOk, Dz.tyNames, Dz.pyOf, Dz.toPy, Dz.toPys, Dz.Sg.put_mk, Dz.Sg.del_mk, Dz.spend_M, Dz.spend_pv, Dz.spend_n, Dz.spend_spend, Dz.spend_put, Dz.spend_del, Dz.spNext_iff, Dz.asI_lst, Dz.asI_tup, Dz.dFJ, Dz.dJs, Dz.dFmt, Dz.Tr.isNil, Gz.gPlain, Gz.gSeq, Gz.gNx, Gz.gIf, Gz.gYield, Gz.gOut, Gz.gForG, Gz.dGCall, Gz.dListG, Gz.dForG, Gz.GE.at, Dz.dDGet, Dz.rDGet, Dz.dDGet2, Dz.dDIn, Dz.dDSet, Dz.rDSet, Dz.dDF, Dz.dDM, Dz.dD0, Dz.dDc, Dz.rTupU, Dz.dStar, Dz.keyD, Dz.asD, Dz.dExtend, Dz.rExtendD, Dz.dFld, Dz.dSetFld, Dz.dMeth, Dz.dMake, Dz.dDictP, Dz.dDd, Dz.dPairs, Dz.dTab, Dz.dAugS, Dz.dNever, Dz.dIndex, Dz.dIndexT, List.map_cons, List.map_nil, List.length_cons, List.length_nil, List.length_map, List.length_set, List.replicate, Nat.reduceSub, Nat.reduceAdd, List.cons_append, List.nil_append, List.getElem?_cons_zero, List.getElem?_cons_succ, List.set_cons_zero, List.set_cons_succ, if_true, if_false, Bool.false_eq_true, id, Nat.sub_zero, Bool.not_true, Bool.not_false, true_and, and_true, ne_eq, not_false_eq_true, not_true_eq_false, reduceCtorEq, Option.map_some, Option.bind_some, String.reduceBEq, Bool.or_false, Bool.or_true, Bool.false_or, Bool.true_or, Bool.and_true, Bool.and_false, Bool.true_and, Bool.false_and, decide_true, decide_false, List.all_cons, List.all_nil, List.any_cons, List.any_nil, beq_self_eq_true, Option.isNone_none, Option.isNone_some]
            refine ⟨by decide, rIn_strs (l := abc.map fun c => (⟨#[c]⟩ : Str)) (by rw [List.map_map]; rfl) ?_⟩
            rw [ltrS_mem]
            cases hx : ltrS x with
            | false =>
              rw [show ltr (.str x) = false from hx, if_neg Bool.false_ne_true] at hR
              simp only [Dz.dSeq, Dz.dIf, Dz.dB, Dz.dOp, Dz.dUn, Dz.dVar, Dz.dC, Dz.dRet, Dz.dRetN, Dz.dNx, Dz.dBrk, Dz.dCnt, Dz.dAsg, Dz.dSet, Dz.dPar, Dz.dPar3, Dz.dgT, Dz.dgTt, Dz.dgCons, Dz.dgNil, Dz.dgN, Dz.dCall, Dz.dCons, Dz.dNil, Dz.dTup, Dz.dCB, Dz.dCN, Dz.dF, Dz.dM, Dz.dSz, Dz.dExpr, Dz.dNot, Dz.dAnd, Dz.dOr, Dz.dAndV, Dz.dOrV, Dz.dNotV, Dz.dIfE, Dz.dChain, Dz.dFrz, Dz.dIt, Dz.dRng1, Dz.dRng2, Dz.dSl, Dz.dNoPart, Dz.dPart, Dz.dCat, Dz.dRep, Dz.dLc, Dz.dFor, Dz.dAppend, Dz.dPop, Dz.dPopAt, Dz.rPopAtD, Dz.dSetIx, Dz.dYes, Dz.dRev, Dz.asI, Dz.asQ, Dz.asL, Dz.rIsN, Dz.rIs, Dz.rIsNot, Dz.isNon_d, Dz.isNon_non, Dz.isNon_tup, Dz.isNon_lst, Dz.isNon_str, Dz.isNon_int, Dz.isNon_bl, Dz.isNon_ref, Dz.isNon_dic, Dz.isNon_ty, Dz.rAddU, Dz.rSub, Dz.rMod, Dz.rDiv, Dz.rPow, Dz.rLt, Dz.rLe, Dz.rGt, Dz.rGe, Dz.rEq, Dz.rNe, Dz.rEqv, Dz.rInt2, Dz.rMax2, Dz.rMin2, Dz.rI, Dz.rCmp, Dz.rIxU, Dz.rAbs, Dz.rToInt, Dz.rListU, Dz.rSlU, Dz.trk, Dz.rLenU, Dz.rMulU, Dz.rNeg, Dz.startD, Dz.wipeD, Dz.Tr.d, Dz.Sg.put_M, Dz.Sg.put_n, Dz.Sg.put_pv, Dz.Sg.del_M, Dz.Sg.del_n, Dz.Sg.del_pv, Dz.Mm.put_same, Dz.Mm.put_put, Dz.Sg.put_put, Dz.Mm.put_ne, Dz.Mm.del_ne, Dz.rIsi, Dz.tyN, Dz.tyNames, Dz.isiT, Dz.subT, Dz.tyOk, Dz.tyNames, Dz.pyOf, Dz.toPy, Dz.toPys, Dz.Sg.put_mk, Dz.Sg.del_mk, Dz.spend_M, Dz.spend_pv, Dz.spend_n, Dz.spend_spend, Dz.spend_put, Dz.spend_del, Dz.spNext_iff, Dz.asI_lst, Dz.asI_tup, Dz.dFJ, Dz.dJs, Dz.dFmt, Dz.Tr.isNil, Gz.gPlain, Gz.gSeq, Gz.gNx, Gz.gIf, Gz.gYield, Gz.gOut, Gz.gForG, Gz.dGCall, Gz.dListG, Gz.dForG, Gz.GE.at, Dz.dDGet, Dz.rDGet, Dz.dDGet2, Dz.dDIn, Dz.dDSet, Dz.rDSet, Dz.dDF, Dz.dDM, Dz.dD0, Dz.dDc, Dz.rTupU, Dz.dStar, Dz.keyD, Dz.asD, Dz.dExtend, Dz.rExtendD, Dz.dFld, Dz.dSetFld, Dz.dMeth, Dz.dMake, Dz.dDictP, Dz.dDd, Dz.dPairs, Dz.dTab, Dz.dAugS, Dz.dNever, Dz.dIndex, Dz.dIndexT, List.map_cons, List.map_nil, List.length_cons, List.length_nil, List.length_map, List.length_set, List.replicate, Nat.reduceSub, Nat.reduceAdd, List.cons_append, List.nil_append, List.getElem?_cons_zero, List.getElem?_cons_succ, List.set_cons_zero, List.set_cons_succ, if_true, if_false, Bool.false_eq_true, id, Nat.sub_zero, Bool.not_true, Bool.not_false, true_and, and_true, ne_eq, not_false_eq_true, not_true_eq_false, reduceCtorEq, Option.map_some, Option.bind_some, String.reduceBEq, Bool.or_false, Bool.or_true, Bool.false_or, Bool.true_or, Bool.and_true, Bool.and_false, Bool.true_and, Bool.false_and, decide_true, decide_false, List.all_cons, List.all_nil, List.any_cons, List.any_nil, beq_self_eq_true]
              exact .of hR
            | true =>
              rw [show ltr (.str x) = true from hx, if_pos rfl] at hR
              simp only [Dz.dSeq, Dz.dIf, Dz.dB, Dz.dOp, Dz.dUn, Dz.dVar, Dz.dC, Dz.dRet, Dz.dRetN, Dz.dNx, Dz.dBrk, Dz.dCnt, Dz.dAsg, Dz.dSet, Dz.dPar, Dz.dPar3, Dz.dgT, Dz.dgTt, Dz.dgCons, Dz.dgNil, Dz.dgN, Dz.dCall, Dz.dCons, Dz.dNil, Dz.dTup, Dz.dCB, Dz.dCN, Dz.dF, Dz.dM, Dz.dSz, Dz.dExpr, Dz.dNot, Dz.dAnd, Dz.dOr, Dz.dAndV, Dz.dOrV, Dz.dNotV, Dz.dIfE, Dz.dChain, Dz.dFrz, Dz.dIt, Dz.dRng1, Dz.dRng2, Dz.dSl, Dz.dNoPart, Dz.dPart, Dz.dCat, Dz.dRep, Dz.dLc, Dz.dFor, Dz.dAppend, Dz.dPop, Dz.dPopAt, Dz.rPopAtD, Dz.dSetIx, Dz.dYes, Dz.dRev, Dz.asI, Dz.asQ, Dz.asL, Dz.rIsN, Dz.rIs, Dz.rIsNot, Dz.isNon_d, Dz.isNon_non, Dz.isNon_tup, Dz.isNon_lst, Dz.isNon_str, Dz.isNon_int, Dz.isNon_bl, Dz.isNon_ref, Dz.isNon_dic, Dz.isNon_ty, Dz.rAddU, Dz.rSub, Dz.rMod, Dz.rDiv, Dz.rPow, Dz.rLt, Dz.rLe, Dz.rGt, Dz.rGe, Dz.rEq, Dz.rNe, Dz.rEqv, Dz.rInt2, Dz.rMax2, Dz.rMin2, Dz.rI, Dz.rCmp, Dz.rIxU, Dz.rAbs, Dz.rToInt, Dz.rListU, Dz.rSlU, Dz.trk, Dz.rLenU, Dz.rMulU, Dz.rNeg, Dz.startD, Dz.wipeD, Dz.Tr.d, Dz.Sg.put_M, Dz.Sg.put_n, Dz.Sg.put_pv, Dz.Sg.del_M, Dz.Sg.del_n, Dz.Sg.del_pv, Dz.Mm.put_same, Dz.Mm.put_put, Dz.Sg.put_put, Dz.Mm.put_ne, Dz.Mm.del_ne, Dz.rIsi, Dz.tyN, Dz.tyNames, Dz.isiT, Dz.subT, Dz.tyOk, Dz.tyNames, Dz.pyOf, Dz.toPy, Dz.toPys, Dz.Sg.put_mk, Dz.Sg.del_mk, Dz.spend_M, Dz.spend_pv, Dz.spend_n, Dz.spend_spend, Dz.spend_put, Dz.spend_del, Dz.spNext_iff, Dz.asI_lst, Dz.asI_tup, Dz.dFJ, Dz.dJs, Dz.dFmt, Dz.Tr.isNil, Gz.gPlain, Gz.gSeq, Gz.gNx, Gz.gIf, Gz.gYield, Gz.gOut, Gz.gForG, Gz.dGCall, Gz.dListG, Gz.dForG, Gz.GE.at, Dz.dDGet, Dz.rDGet, Dz.dDGet2, Dz.dDIn, Dz.dDSet, Dz.rDSet, Dz.dDF, Dz.dDM, Dz.dD0, Dz.dDc, Dz.rTupU, Dz.dStar, Dz.keyD, Dz.asD, Dz.dExtend, Dz.rExtendD, Dz.dFld, Dz.dSetFld, Dz.dMeth, Dz.dMake, Dz.dDictP, Dz.dDd, Dz.dPairs, Dz.dTab, Dz.dAugS, Dz.dNever, Dz.dIndex, Dz.dIndexT, List.map_cons, List.map_nil, List.length_cons, List.length_nil, List.length_map, List.length_set, List.replicate, Nat.reduceSub, Nat.reduceAdd, List.cons_append, List.nil_append, List.getElem?_cons_zero, List.getElem?_cons_succ, List.set_cons_zero, List.set_cons_succ, if_true, if_false, Bool.false_eq_true, id, Nat.sub_zero, Bool.not_true, Bool.not_false, true_and, and_true, ne_eq, not_false_eq_true, not_true_eq_false, reduceCtorEq, Option.map_some, Option.bind_some, String.reduceBEq, Bool.or_false, Bool.or_true, Bool.false_or, Bool.true_or, Bool.and_true, Bool.and_false, Bool.true_and, Bool.false_and, decide_true, decide_false, List.all_cons, List.all_nil, List.any_cons, List.any_nil, beq_self_eq_true]
              refine .of ?_
              have e : cnD (some a) + 1 + cnD (some b) = cnD (((some a).bind fun a => (some b).map fun b => a + 1 + b)) := by
                show (a : Int) + 1 + (b : Int) = ((a + 1 + b : Nat) : Int)
                omega
              rw [e]
              exact hR
      | ref _ => exact hgx.elim
      | ty _ => exact hgx.elim
      | exc _ _ _ _ => exact hgx.elim
      | _ =>
        simp only [Dz.dSeq, Dz.dIf, Dz.dB, Dz.dOp, Dz.dUn, Dz.dVar, Dz.dC, Dz.dRet, Dz.dRetN, Dz.dNx, Dz.dBrk, Dz.dCnt, Dz.dAsg, Dz.dSet, Dz.dPar, Dz.dPar3, Dz.dgT, Dz.dgTt, Dz.dgCons, Dz.dgNil, Dz.dgN, Dz.dCall, Dz.dCons, Dz.dNil, Dz.dTup, Dz.dCB, Dz.dCN, Dz.dF, Dz.dM, Dz.dSz, Dz.dExpr, Dz.dNot, Dz.dAnd, Dz.dOr, Dz.dAndV, Dz.dOrV, Dz.dNotV, Dz.dIfE, Dz.dChain, Dz.dFrz, Dz.dIt, Dz.dRng1, Dz.dRng2, Dz.dSl, Dz.dNoPart, Dz.dPart, Dz.dCat, Dz.dRep, Dz.dLc, Dz.dFor, Dz.dAppend, Dz.dPop, Dz.dPopAt, Dz.rPopAtD, Dz.dSetIx, Dz.dYes, Dz.dRev, Dz.asI, Dz.asQ, Dz.asL, Dz.rIsN, Dz.rIs, Dz.rIsNot, Dz.isNon_d, Dz.isNon_non, Dz.isNon_tup, Dz.isNon_lst, Dz.isNon_str, Dz.isNon_int, Dz.isNon_bl, Dz.isNon_ref, Dz.isNon_dic, Dz.isNon_ty, Dz.rAddU, Dz.rSub, Dz.rMod, Dz.rDiv, Dz.rPow, Dz.rLt, Dz.rLe, Dz.rGt, Dz.rGe, Dz.rEq, Dz.rNe, Dz.rEqv, Dz.rInt2, Dz.rMax2, Dz.rMin2, Dz.rI, Dz.rCmp, Dz.rIxU, Dz.rAbs, Dz.rToInt, Dz.rListU, Dz.rSlU, Dz.trk, Dz.rLenU, Dz.rMulU, Dz.rNeg, Dz.startD, Dz.wipeD, Dz.Tr.d, Dz.Sg.put_M, Dz.Sg.put_n, Dz.Sg.put_pv, Dz.Sg.del_M, Dz.Sg.del_n, Dz.Sg.del_pv, Dz.Mm.put_same, Dz.Mm.put_put, Dz.Sg.put_put, Dz.Mm.put_ne, Dz.Mm.del_ne, Dz.rIsi, Dz.tyN, Dz.tyNames, Dz.isiT, Dz.subT, Dz.tyOk, Dz.tyNames, Dz.pyOf, Dz.toPy, Dz.toPys, Dz.Sg.put_mk, Dz.Sg.del_mk, Dz.spend_M, Dz.spend_pv, Dz.spend_n, Dz.spend_spend, Dz.spend_put, Dz.spend_del, Dz.spNext_iff, Dz.asI_lst, Dz.asI_tup, Dz.dFJ, Dz.dJs, Dz.dFmt, Dz.Tr.isNil, Gz.gPlain, Gz.gSeq, Gz.gNx, Gz.gIf, Gz.gYield, Gz.gOut, Gz.gForG, Gz.dGCall, Gz.dListG, Gz.dForG, Gz.GE.at, Dz.dDGet, Dz.rDGet, Dz.dDGet2, Dz.dDIn, Dz.dDSet, Dz.rDSet, Dz.dDF, Dz.dDM, Dz.dD0, Dz.dDc, Dz.rTupU, Dz.dStar, Dz.keyD, Dz.asD, Dz.dExtend, Dz.rExtendD, Dz.dFld, Dz.dSetFld, Dz.dMeth, Dz.dMake, Dz.dDictP, Dz.dDd, Dz.dPairs, Dz.dTab, Dz.dAugS, Dz.dNever, Dz.dIndex, Dz.dIndexT, List.map_cons, List.map_nil, List.length_cons, List.length_nil, List.length_map, List.length_set, List.replicate, Nat.reduceSub, Nat.reduceAdd, List.cons_append, List.nil_append, List.getElem?_cons_zero, List.getElem?_cons_succ, List.set_cons_zero, List.set_cons_succ, if_true, if_false, Bool.false_eq_true, id, Nat.sub_zero, Bool.not_true, Bool.not_false, true_and, and_true, ne_eq, not_false_eq_true, not_true_eq_false, reduceCtorEq, Option.map_some, Option.bind_some, String.reduceBEq, Bool.or_false, Bool.or_true, Bool.false_or, Bool.true_or, Bool.and_true, Bool.and_false, Bool.true_and, Bool.false_and, decide_true, decide_false, List.all_cons, List.all_nil, List.any_cons, List.any_nil, beq_self_eq_true]
        exact .of hR
    · rw [szN_no h3] at hR
      have e : decide ((ws.length : Int) = 3) = false := by rw [decide_eq_false_iff_not]; omega
      simp only [Dz.dSeq, Dz.dIf, Dz.dB, Dz.dOp, Dz.dUn, Dz.dVar, Dz.dC, Dz.dRet, Dz.dRetN, Dz.dNx, Dz.dBrk, Dz.dCnt, Dz.dAsg, Dz.dSet, Dz.dPar, Dz.dPar3, Dz.dgT, Dz.dgTt, Dz.dgCons, Dz.dgNil, Dz.dgN, Dz.dCall, Dz.dCons, Dz.dNil, Dz.dTup, Dz.dCB, Dz.dCN, Dz.dF, Dz.dM, Dz.dSz, Dz.dExpr, Dz.dNot, Dz.dAnd, Dz.dOr, Dz.dAndV, Dz.dOrV, Dz.dNotV, Dz.dIfE, Dz.dChain, Dz.dFrz, Dz.dIt, Dz.dRng1, Dz.dRng2, Dz.dSl, Dz.dNoPart, Dz.dPart, Dz.dCat, Dz.dRep, Dz.dLc, Dz.dFor, Dz.dAppend, Dz.dPop, Dz.dPopAt, Dz.rPopAtD, Dz.dSetIx, Dz.dYes, Dz.dRev, Dz.asI, Dz.asQ, Dz.asL, Dz.rIsN, Dz.rIs, Dz.rIsNot, Dz.isNon_d, Dz.isNon_non, Dz.isNon_tup, Dz.isNon_lst, Dz.isNon_str, Dz.isNon_int, Dz.isNon_bl, Dz.isNon_ref, Dz.isNon_dic, Dz.isNon_ty, Dz.rAddU, Dz.rSub, Dz.rMod, Dz.rDiv, Dz.rPow, Dz.rLt, Dz.rLe, Dz.rGt, Dz.rGe, Dz.rEq, Dz.rNe, Dz.rEqv, Dz.rInt2, Dz.rMax2, Dz.rMin2, Dz.rI, Dz.rCmp, Dz.rIxU, Dz.rAbs, Dz.rToInt, Dz.rListU, Dz.rSlU, Dz.trk, Dz.rLenU, Dz.rMulU, Dz.rNeg, Dz.startD, Dz.wipeD, Dz.Tr.d, Dz.Sg.put_M, Dz.Sg.put_n, Dz.Sg.put_pv, Dz.Sg.del_M, Dz.Sg.del_n, Dz.Sg.del_pv, Dz.Mm.put_same, Dz.Mm.put_put, Dz.Sg.put_put, Dz.Mm.put_ne, Dz.Mm.del_ne, Dz.rIsi, Dz.tyN, Dz.tyNames, Dz.isiT, Dz.subT, Dz.tyOk, Dz.tyNames, Dz.pyOf, Dz.toPy, Dz.toPys, Dz.Sg.put_mk, Dz.Sg.del_mk, Dz.spend_M, Dz.spend_pv, Dz.spend_n, Dz.spend_spend, Dz.spend_put, Dz.spend_del, Dz.spNext_iff, Dz.asI_lst, Dz.asI_tup, Dz.dFJ, Dz.dJs, Dz.dFmt, Dz.Tr.isNil, Gz.gPlain, Gz.gSeq, Gz.gNx, Gz.gIf, Gz.gYield, Gz.gOut, Gz.gForG, Gz.dGCall, Gz.dListG, Gz.dForG, Gz.GE.at, Dz.dDGet, Dz.rDGet, Dz.dDGet2, Dz.dDIn, Dz.dDSet, Dz.rDSet, Dz.dDF, Dz.dDM, Dz.dD0, Dz.dDc, Dz.rTupU, Dz.dStar, Dz.keyD, Dz.asD, Dz.dExtend, Dz.rExtendD, Dz.dFld, Dz.dSetFld, Dz.dMeth, Dz.dMake, Dz.dDictP, Dz.dDd, Dz.dPairs, Dz.dTab, Dz.dAugS, Dz.dNever, Dz.dIndex, Dz.dIndexT, List.map_cons, List.map_nil, List.length_cons, List.length_nil, List.length_map, List.length_set, List.replicate, Nat.reduceSub, Nat.reduceAdd, List.cons_append, List.nil_append, List.getElem?_cons_zero, List.getElem?_cons_succ, List.set_cons_zero, List.set_cons_succ, if_true, if_false, Bool.false_eq_true, id, Nat.sub_zero, Bool.not_true, Bool.not_false, true_and, and_true, ne_eq, not_false_eq_true, not_true_eq_false, reduceCtorEq, Option.map_some, Option.bind_some, String.reduceBEq, Bool.or_false, Bool.or_true, Bool.false_or, Bool.true_or, Bool.and_true, Bool.and_false, Bool.true_and, Bool.false_and, decide_true, decide_false, List.all_cons, List.all_nil, List.any_cons, List.any_nil, beq_self_eq_true, e]
      exact .of hR
  | ref _ => exact hg.elim
  | ty _ => exact hg.elim
  | exc _ _ _ _ => exact hg.elim
  | _ =>
    simp only [Dz.dSeq, Dz.dIf, Dz.dB, Dz.dOp, Dz.dUn, Dz.dVar, Dz.dC, Dz.dRet, Dz.dRetN, Dz.dNx, Dz.dBrk, Dz.dCnt, Dz.dAsg, Dz.dSet, Dz.dPar, Dz.dPar3, Dz.dgT, Dz.dgTt, Dz.dgCons, Dz.dgNil, Dz.dgN, Dz.dCall, Dz.dCons, Dz.dNil, Dz.dTup, Dz.dCB, Dz.dCN, Dz.dF, Dz.dM, Dz.dSz, Dz.dExpr, Dz.dNot, Dz.dAnd, Dz.dOr, Dz.dAndV, Dz.dOrV, Dz.dNotV, Dz.dIfE, Dz.dChain, Dz.dFrz, Dz.dIt, Dz.dRng1, Dz.dRng2, Dz.dSl, Dz.dNoPart, Dz.dPart, Dz.dCat, Dz.dRep, Dz.dLc, Dz.dFor, Dz.dAppend, Dz.dPop, Dz.dPopAt, Dz.rPopAtD, Dz.dSetIx, Dz.dYes, Dz.dRev, Dz.asI, Dz.asQ, Dz.asL, Dz.rIsN, Dz.rIs, Dz.rIsNot, Dz.isNon_d, Dz.isNon_non, Dz.isNon_tup, Dz.isNon_lst, Dz.isNon_str, Dz.isNon_int, Dz.isNon_bl, Dz.isNon_ref, Dz.isNon_dic, Dz.isNon_ty, Dz.rAddU, Dz.rSub, Dz.rMod, Dz.rDiv, Dz.rPow, Dz.rLt, Dz.rLe, Dz.rGt, Dz.rGe, Dz.rEq, Dz.rNe, Dz.rEqv, Dz.rInt2, Dz.rMax2, Dz.rMin2, Dz.rI, Dz.rCmp, Dz.rIxU, Dz.rAbs, Dz.rToInt, Dz.rListU, Dz.rSlU, Dz.trk, Dz.rLenU, Dz.rMulU, Dz.rNeg, Dz.startD, Dz.wipeD, Dz.Tr.d, Dz.Sg.put_M, Dz.Sg.put_n, Dz.Sg.put_pv, Dz.Sg.del_M, Dz.Sg.del_n, Dz.Sg.del_pv, Dz.Mm.put_same, Dz.Mm.put_put, Dz.Sg.put_put, Dz.Mm.put_ne, Dz.Mm.del_ne, Dz.rIsi, Dz.tyN, Dz.tyNames, Dz.isiT, Dz.subT, Dz.tyOk, Dz.tyNames, Dz.pyOf, Dz.toPy, Dz.toPys, Dz.Sg.put_mk, Dz.Sg.del_mk, Dz.spend_M, Dz.spend_pv, Dz.spend_n, Dz.spend_spend, Dz.spend_put, Dz.spend_del, Dz.spNext_iff, Dz.asI_lst, Dz.asI_tup, Dz.dFJ, Dz.dJs, Dz.dFmt, Dz.Tr.isNil, Gz.gPlain, Gz.gSeq, Gz.gNx, Gz.gIf, Gz.gYield, Gz.gOut, Gz.gForG, Gz.dGCall, Gz.dListG, Gz.dForG, Gz.GE.at, Dz.dDGet, Dz.rDGet, Dz.dDGet2, Dz.dDIn, Dz.dDSet, Dz.rDSet, Dz.dDF, Dz.dDM, Dz.dD0, Dz.dDc, Dz.rTupU, Dz.dStar, Dz.keyD, Dz.asD, Dz.dExtend, Dz.rExtendD, Dz.dFld, Dz.dSetFld, Dz.dMeth, Dz.dMake, Dz.dDictP, Dz.dDd, Dz.dPairs, Dz.dTab, Dz.dAugS, Dz.dNever, Dz.dIndex, Dz.dIndexT, List.map_cons, List.map_nil, List.length_cons, List.length_nil, List.length_map, List.length_set, List.replicate, Nat.reduceSub, Nat.reduceAdd, List.cons_append, List.nil_append, List.getElem?_cons_zero, List.getElem?_cons_succ, List.set_cons_zero, List.set_cons_succ, if_true, if_false, Bool.false_eq_true, id, Nat.sub_zero, Bool.not_true, Bool.not_false, true_and, and_true, ne_eq, not_false_eq_true, not_true_eq_false, reduceCtorEq, Option.map_some, Option.bind_some, String.reduceBEq, Bool.or_false, Bool.or_true, Bool.false_or, Bool.true_or, Bool.and_true, Bool.and_false, Bool.true_and, Bool.false_and, decide_true, decide_false, List.all_cons, List.all_nil, List.any_cons, List.any_nil, beq_self_eq_true, t_law_count]
    exact .of hR
end Pr
namespace Pr
open PySem PySem.Spec PyProof.Rows L2 Dz
def odds : List D := [.non, .bl true, .bl false, .int (-1), .int 0, .int 1, .int 12, .int (10 ^ 29), .str "", .str "a", .str "l", .str "A", .str "ab", .tup [], .lst [], .dic [] [], .tup [.int 0], .lst [.int 0], .tup [.lst [.int 0]], .tup [.dic [] []], .tup [.non, .str "a", .non], .tup [.non, .str "a"], .lst [.non, .str "a", .non], .tup [.non, .str "a", .non, .non]]
theorem odds_ok : ∀ w ∈ odds, gx w 2 ∧ wx w ≤ 50 := by
  have a1 : PyData.strOk "" = true := by decide +kernel
  have a2 : PyData.strOk "a" = true := by decide +kernel
  have a3 : PyData.strOk "l" = true := by decide +kernel
  have a4 : PyData.strOk "A" = true := by decide +kernel
  have a5 : PyData.strOk "ab" = true := by decide +kernel
  intro w hw
  simp only [odds, List.mem_cons, List.not_mem_nil, or_false] at hw
  rcases hw with rfl | rfl | rfl | rfl | rfl | rfl | rfl | rfl | rfl | rfl | rfl | rfl | rfl | rfl | rfl | rfl | rfl | rfl | rfl | rfl | rfl | rfl | rfl | rfl <;> exact ⟨by simp [gx, gxs, a1, a2, a3, a4, a5], by decide⟩
def spOdd : SpD := fun ws s R _ => ∃ p : Addr, ws = [.ref p] ∧ Dk s p ∧ 1 ≤ s.n ∧ ∀ w, gx w 2 → wx w ≤ 50 → R w (spend s 1)
theorem e_law_odd : ∀ ws s R, spOdd ws s R X0 → ws.length = 1 ∧ t_law_odd spNext { nx := fun _ s' => Lw R .non s', rt := Lw R } (Dz.startD N_law_odd ws) s := by
  rintro ws s R ⟨p, rfl, hp, hn, hR⟩
  refine ⟨rfl, ?_⟩
  simp only [Dz.dSeq, Dz.dIf, Dz.dB, Dz.dOp, Dz.dUn, Dz.dVar, Dz.dC, Dz.dRet, Dz.dRetN, Dz.dNx, Dz.dBrk, Dz.dCnt, Dz.dAsg, Dz.dSet, Dz.dPar, Dz.dPar3, Dz.dgT, Dz.dgTt, Dz.dgCons, Dz.dgNil, Dz.dgN, Dz.dCall, Dz.dCons, Dz.dNil, Dz.dTup, Dz.dCB, Dz.dCN, Dz.dF, Dz.dM, Dz.dSz, Dz.dExpr, Dz.dNot, Dz.dAnd, Dz.dOr, Dz.dAndV, Dz.dOrV, Dz.dNotV, Dz.dIfE, Dz.dChain, Dz.dFrz, Dz.dIt, Dz.dRng1, Dz.dRng2, Dz.dSl, Dz.dNoPart, Dz.dPart, Dz.dCat, Dz.dRep, Dz.dLc, Dz.dFor, Dz.dAppend, Dz.dPop, Dz.dPopAt, Dz.rPopAtD, Dz.dSetIx, Dz.dYes, Dz.dRev, Dz.asI, Dz.asQ, Dz.asL, Dz.rIsN, Dz.rIs, Dz.rIsNot, Dz.isNon_d, Dz.isNon_non, Dz.isNon_tup, Dz.isNon_lst, Dz.isNon_str, Dz.isNon_int, Dz.isNon_bl, Dz.isNon_ref, Dz.isNon_dic, Dz.isNon_ty, Dz.rAddU, Dz.rSub, Dz.rMod, Dz.rDiv, Dz.rPow, Dz.rLt, Dz.rLe, Dz.rGt, Dz.rGe, Dz.rEq, Dz.rNe, Dz.rEqv, Dz.rInt2, Dz.rMax2, Dz.rMin2, Dz.rI, Dz.rCmp, Dz.rIxU, Dz.rAbs, Dz.rToInt, Dz.rListU, Dz.rSlU, Dz.trk, Dz.rLenU, Dz.rMulU, Dz.rNeg, Dz.startD, Dz.wipeD, Dz.Tr.d, Dz.Sg.put_M, Dz.Sg.put_n, Dz.Sg.put_pv, Dz.Sg.del_M, Dz.Sg.del_n, Dz.Sg.del_pv, Dz.Mm.put_same, Dz.Mm.put_put, Dz.Sg.put_put, Dz.Mm.put_ne, Dz.Mm.del_ne, Dz.rIsi, Dz.tyN, Dz.tyNames, Dz.isiT, Dz.subT, Dz.tyOk, Dz.tyNames, Dz.pyOf, Dz.toPy, Dz.toPys, Dz.Sg.put_mk, Dz.Sg.del_mk, Dz.spend_M, Dz.spend_pv, Dz.spend_n, Dz.spend_spend, Dz.spend_put, Dz.spend_del, Dz.spNext_iff, Dz.asI_lst, Dz.asI_tup, Dz.dFJ, Dz.dJs, Dz.dFmt, Dz.Tr.isNil, Gz.gPlain, Gz.gSeq, Gz.gNx, Gz.gIf, Gz.gYield, Gz.gOut, Gz.gForG, Gz.dGCall, Gz.dListG, Gz.dForG, Gz.GE.at, Dz.dDGet, Dz.rDGet, Dz.dDGet2, Dz.dDIn, Dz.dDSet, Dz.rDSet, Dz.dDF, Dz.dDM, Dz.dD0, Dz.dDc, Dz.rTupU, Dz.dStar, Dz.keyD, Dz.asD, Dz.dExtend, Dz.rExtendD, Dz.dFld, Dz.dSetFld, Dz.dMeth, Dz.dMake, Dz.dDictP, Dz.dDd, Dz.dPairs, Dz.dTab, Dz.dAugS, Dz.dNever, Dz.dIndex, Dz.dIndexT, List.map_cons, List.map_nil, List.length_cons, List.length_nil, List.length_map, List.length_set, List.replicate, Nat.reduceSub, Nat.reduceAdd, List.cons_append, List.nil_append, List.getElem?_cons_zero, List.getElem?_cons_succ, List.set_cons_zero, List.set_cons_succ, if_true, if_false, Bool.false_eq_true, id, Nat.sub_zero, Bool.not_true, Bool.not_false, true_and, and_true, ne_eq, not_false_eq_true, not_true_eq_false, reduceCtorEq, Option.map_some, Option.bind_some, String.reduceBEq, Bool.or_false, Bool.or_true, Bool.false_or, Bool.true_or, Bool.and_true, Bool.and_false, Bool.true_and, Bool.false_and, decide_true, decide_false, List.all_cons, List.all_nil, List.any_cons, List.any_nil, beq_self_eq_true, t_law_odd]
  refine ⟨⟨by decide, by decide, by decide⟩, by decide, fun _ _ => ⟨by decide, by decide, by decide, by decide, fun _ _ => ⟨by decide, by decide, by decide, by decide, by decide, by decide, by decide, by decide, hp, by decide, by decide, hn, fun r r0 r1 => ?_⟩⟩⟩
  obtain ⟨x, e1, e2, e3⟩ := atI_map (f := id) (xs := odds) (i := r) r0 r1
  rw [List.map_id] at e3
  have e4 : L2.atI odds r = some x := e3
  unfold odds at e4
  simp only [Str.ofString] at e4 ⊢
  rw [show (10 : Int) ^ Int.toNat 29 = 10 ^ 29 from rfl]
  rw [e4]
  obtain ⟨g1, g2⟩ := odds_ok x e2
  exact .of (hR x g1 g2)
def spBent (n : Nat) : SpD := fun ws s R _ => ∃ (p : Addr) (w : D) (m : Nat), ws = [.ref p, w] ∧ Dk s p ∧ gx w m ∧ m < n ∧ wx w ≤ 5000 ∧ 3 * m + 4 ≤ s.n ∧ ∀ w', gx w' (m + 2) → wx w' ≤ 2 * wx w + 100 → R w' (spend s (3 * m + 4))
def t2_bent (sp_law_next sp_law_odd : SpD) : DS := (dSeq (dSet 3 (dCall sp_law_next (dCons (dVar 0) (dCons (dC (.int 6)) dNil))))
    (dSeq (dIf (dAnd (dB (dCB rIsi (dCons (dVar 1) (dCons (dC (.ty "tuple")) dNil)))) (dB (dOp rLt (dVar 3) (dC (.int 4))))) (dRet (dOp rIxU (dF (dSz (dCons (dF (dCN rListU (dCons (dVar 1) dNil))) (dCons (dSl (dVar 1) (dPart (dC (.int 1))) dNoPart) (dCons (dOp rAddU (dVar 1) (dSl (dVar 1) dNoPart (dPart (dC (.int 1))))) (dCons (dRevT (dVar 1)) dNil)))))) (dVar 3))) dNx)
    (dRet (dCall sp_law_odd (dCons (dVar 0) dNil)))))
theorem t_bent_eq {sp_law_next sp_law_bent sp_law_odd : SpD} : t_law_bent sp_law_next sp_law_bent sp_law_odd = (dSeq (dIf (dAnd (dB (dCB rIsi (dCons (dVar 1) (dCons (dC (.ty "tuple")) dNil)))) (dAnd (dB (dOp rNe0 (dVar 1) (dC (.tup [])))) (dB (dOp rGt (dCall sp_law_next (dCons (dVar 0) (dCons (dC (.int 3)) dNil))) (dC (.int 0)))))) (dSeq (dSet 2 (dCall sp_law_next (dCons (dVar 0) (dCons (dCB rLenU (dCons (dVar 1) dNil)) dNil))))
    (dRet (dOp rAddU (dOp rAddU (dSl (dVar 1) dNoPart (dPart (dVar 2))) (dTup (dCons (dCall sp_law_bent (dCons (dVar 0) (dCons (dOp rIxU (dVar 1) (dVar 2)) dNil))) dNil))) (dSl (dVar 1) (dPart (dOp rAddU (dVar 2) (dC (.int 1)))) dNoPart)))) dNx)
    (t2_bent sp_law_next sp_law_odd)) := rfl
theorem len_wx : ∀ ws : List D, ws.length ≤ wxs ws
  | [] => Nat.le_refl _
  | w :: ws => by
    have := len_wx ws
    show ws.length + 1 ≤ wx w + 1 + wxs ws
    omega
theorem wxs_take (ws : List D) (n : Nat) : wxs (ws.take n) ≤ wxs ws := by
  conv => rhs; rw [← List.take_append_drop n ws, wxs_app]
  omega
theorem wxs_drop (ws : List D) (n : Nat) : wxs (ws.drop n) ≤ wxs ws := by
  conv => rhs; rw [← List.take_append_drop n ws, wxs_app]
  omega
theorem gxs_sub {ws us : List D} {n : Nat} (h : gxs ws n) (hs : ∀ u ∈ us, u ∈ ws) : gxs us n := gxs_of fun u hu => gxs_mem h (hs u hu)
theorem tail_ok {s : Sg} {R : KD} {p : Addr} {w : D} {m : Nat} {e2 : Option D} {j : Nat} (hj : j ≤ 1) (hp : Dk s p) (hg : gx w m) (hw : wx w ≤ 5000) (hn : 3 * m + 4 ≤ s.n) (hR : ∀ w', gx w' (m + 2) → wx w' ≤ 2 * wx w + 100 → R w' (spend s (3 * m + 4))) :
    t2_bent spNext spOdd { nx := fun _ s' => Lw R .non s', rt := Lw R } [some (.ref p), some w, e2, none] (spend s j) := by
  have odd : ∀ k, k ≤ 3 → spOdd [.ref p] (spend s k) (Lw R) X0 := fun k hk => ⟨p, rfl, hp, by rw [spend_n]; omega, fun w' h1 h2 => by
    rw [spend_spend]
    exact .more (by omega) (hR w' (gx_mono _ _ _ (by omega) h1) (by omega))⟩
  have dn : ∀ {w' : D} {k : Nat}, k ≤ 3 → gx w' (m + 2) → wx w' ≤ 2 * wx w + 100 → Lw R w' (spend s k) := fun hk h1 h2 => .more (by omega) (hR _ h1 h2)
  cases w with
  | tup ws =>
    have h' : 0 < m ∧ ws.length ≤ 100000 ∧ gxs ws (m - 1) := hg
    have hw' : wxs ws ≤ 5000 := hw
    have hl := len_wx ws
    have hgs : gxs ws (m + 1) := gxs_mono ws _ _ (by omega) h'.2.2
    simp only [Dz.dSeq, Dz.dIf, Dz.dB, Dz.dOp, Dz.dUn, Dz.dVar, Dz.dC, Dz.dRet, Dz.dRetN, Dz.dNx, Dz.dBrk, Dz.dCnt, Dz.dAsg, Dz.dSet, Dz.dPar, Dz.dPar3, Dz.dgT, Dz.dgTt, Dz.dgCons, Dz.dgNil, Dz.dgN, Dz.dCall, Dz.dCons, Dz.dNil, Dz.dTup, Dz.dCB, Dz.dCN, Dz.dF, Dz.dM, Dz.dSz, Dz.dExpr, Dz.dNot, Dz.dAnd, Dz.dOr, Dz.dAndV, Dz.dOrV, Dz.dNotV, Dz.dIfE, Dz.dChain, Dz.dFrz, Dz.dIt, Dz.dRng1, Dz.dRng2, Dz.dSl, Dz.dNoPart, Dz.dPart, Dz.dCat, Dz.dRep, Dz.dLc, Dz.dFor, Dz.dAppend, Dz.dPop, Dz.dPopAt, Dz.rPopAtD, Dz.dSetIx, Dz.dYes, Dz.dRev, Dz.asI, Dz.asQ, Dz.asL, Dz.rIsN, Dz.rIs, Dz.rIsNot, Dz.isNon_d, Dz.isNon_non, Dz.isNon_tup, Dz.isNon_lst, Dz.isNon_str, Dz.isNon_int, Dz.isNon_bl, Dz.isNon_ref, Dz.isNon_dic, Dz.isNon_ty, Dz.rAddU, Dz.rSub, Dz.rMod, Dz.rDiv, Dz.rPow, Dz.rLt, Dz.rLe, Dz.rGt, Dz.rGe, Dz.rEq, Dz.rNe, Dz.rEqv, Dz.rInt2, Dz.rMax2, Dz.rMin2, Dz.rI, Dz.rCmp, Dz.rIxU, Dz.rAbs, Dz.rToInt, Dz.rListU, Dz.rSlU, Dz.trk, Dz.rLenU, Dz.rMulU, Dz.rNeg, Dz.startD, Dz.wipeD, Dz.Tr.d, Dz.Sg.put_M, Dz.Sg.put_n, Dz.Sg.put_pv, Dz.Sg.del_M, Dz.Sg.del_n, Dz.Sg.del_pv, Dz.Mm.put_same, Dz.Mm.put_put, Dz.Sg.put_put, Dz.Mm.put_ne, Dz.Mm.del_ne, Dz.rIsi, Dz.tyN, Dz.tyNames, Dz.isiT, Dz.subT, Dz.tyOk, Dz.tyNames, Dz.pyOf, Dz.toPy, Dz.toPys, Dz.Sg.put_mk, Dz.Sg.del_mk, Dz.spend_M, Dz.spend_pv, Dz.spend_n, Dz.spend_spend, Dz.spend_put, Dz.spend_del, Dz.spNext_iff, Dz.asI_lst, Dz.asI_tup, Dz.dFJ, Dz.dJs, Dz.dFmt, Dz.Tr.isNil, Gz.gPlain, Gz.gSeq, Gz.gNx, Gz.gIf, Gz.gYield, Gz.gOut, Gz.gForG, Gz.dGCall, Gz.dListG, Gz.dForG, Gz.GE.at, Dz.dDGet, Dz.rDGet, Dz.dDGet2, Dz.dDIn, Dz.dDSet, Dz.rDSet, Dz.dDF, Dz.dDM, Dz.dD0, Dz.dDc, Dz.rTupU, Dz.dStar, Dz.keyD, Dz.asD, Dz.dExtend, Dz.rExtendD, Dz.dFld, Dz.dSetFld, Dz.dMeth, Dz.dMake, Dz.dDictP, Dz.dDd, Dz.dPairs, Dz.dTab, Dz.dAugS, Dz.dNever, Dz.dIndex, Dz.dIndexT, List.map_cons, List.map_nil, List.length_cons, List.length_nil, List.length_map, List.length_set, List.replicate, Nat.reduceSub, Nat.reduceAdd, List.cons_append, List.nil_append, List.getElem?_cons_zero, List.getElem?_cons_succ, List.set_cons_zero, List.set_cons_succ, if_true, if_false, Bool.false_eq_true, id, Nat.sub_zero, Bool.not_true, Bool.not_false, true_and, and_true, ne_eq, not_false_eq_true, not_true_eq_false, reduceCtorEq, Option.map_some, Option.bind_some, String.reduceBEq, Bool.or_false, Bool.or_true, Bool.false_or, Bool.true_or, Bool.and_true, Bool.and_false, Bool.true_and, Bool.false_and, decide_true, decide_false, List.all_cons, List.all_nil, List.any_cons, List.any_nil, beq_self_eq_true, t2_bent, Dz.dRevT, Dz.asT]
    refine ⟨hp, by decide, by decide, by omega, fun r r0 r1 => ?_⟩
    by_cases h4 : r < 4
    · rw [if_pos (decide_eq_true h4)]
      simp only [Dz.dSeq, Dz.dIf, Dz.dB, Dz.dOp, Dz.dUn, Dz.dVar, Dz.dC, Dz.dRet, Dz.dRetN, Dz.dNx, Dz.dBrk, Dz.dCnt, Dz.dAsg, Dz.dSet, Dz.dPar, Dz.dPar3, Dz.dgT, Dz.dgTt, Dz.dgCons, Dz.dgNil, Dz.dgN, Dz.dCall, Dz.dCons, Dz.dNil, Dz.dTup, Dz.dCB, Dz.dCN, Dz.dF, Dz.dM, Dz.dSz, Dz.dExpr, Dz.dNot, Dz.dAnd, Dz.dOr, Dz.dAndV, Dz.dOrV, Dz.dNotV, Dz.dIfE, Dz.dChain, Dz.dFrz, Dz.dIt, Dz.dRng1, Dz.dRng2, Dz.dSl, Dz.dNoPart, Dz.dPart, Dz.dCat, Dz.dRep, Dz.dLc, Dz.dFor, Dz.dAppend, Dz.dPop, Dz.dPopAt, Dz.rPopAtD, Dz.dSetIx, Dz.dYes, Dz.dRev, Dz.asI, Dz.asQ, Dz.asL, Dz.rIsN, Dz.rIs, Dz.rIsNot, Dz.isNon_d, Dz.isNon_non, Dz.isNon_tup, Dz.isNon_lst, Dz.isNon_str, Dz.isNon_int, Dz.isNon_bl, Dz.isNon_ref, Dz.isNon_dic, Dz.isNon_ty, Dz.rAddU, Dz.rSub, Dz.rMod, Dz.rDiv, Dz.rPow, Dz.rLt, Dz.rLe, Dz.rGt, Dz.rGe, Dz.rEq, Dz.rNe, Dz.rEqv, Dz.rInt2, Dz.rMax2, Dz.rMin2, Dz.rI, Dz.rCmp, Dz.rIxU, Dz.rAbs, Dz.rToInt, Dz.rListU, Dz.rSlU, Dz.trk, Dz.rLenU, Dz.rMulU, Dz.rNeg, Dz.startD, Dz.wipeD, Dz.Tr.d, Dz.Sg.put_M, Dz.Sg.put_n, Dz.Sg.put_pv, Dz.Sg.del_M, Dz.Sg.del_n, Dz.Sg.del_pv, Dz.Mm.put_same, Dz.Mm.put_put, Dz.Sg.put_put, Dz.Mm.put_ne, Dz.Mm.del_ne, Dz.rIsi, Dz.tyN, Dz.tyNames, Dz.isiT, Dz.subT, Dz.tyOk, Dz.tyNames, Dz.pyOf, Dz.toPy, Dz.toPys, Dz.Sg.put_mk, Dz.Sg.del_mk, Dz.spend_M, Dz.spend_pv, Dz.spend_n, Dz.spend_spend, Dz.spend_put, Dz.spend_del, Dz.spNext_iff, Dz.asI_lst, Dz.asI_tup, Dz.dFJ, Dz.dJs, Dz.dFmt, Dz.Tr.isNil, Gz.gPlain, Gz.gSeq, Gz.gNx, Gz.gIf, Gz.gYield, Gz.gOut, Gz.gForG, Gz.dGCall, Gz.dListG, Gz.dForG, Gz.GE.at, Dz.dDGet, Dz.rDGet, Dz.dDGet2, Dz.dDIn, Dz.dDSet, Dz.rDSet, Dz.dDF, Dz.dDM, Dz.dD0, Dz.dDc, Dz.rTupU, Dz.dStar, Dz.keyD, Dz.asD, Dz.dExtend, Dz.rExtendD, Dz.dFld, Dz.dSetFld, Dz.dMeth, Dz.dMake, Dz.dDictP, Dz.dDd, Dz.dPairs, Dz.dTab, Dz.dAugS, Dz.dNever, Dz.dIndex, Dz.dIndexT, List.map_cons, List.map_nil, List.length_cons, List.length_nil, List.length_map, List.length_set, List.replicate, Nat.reduceSub, Nat.reduceAdd, List.cons_append, List.nil_append, List.getElem?_cons_zero, List.getElem?_cons_succ, List.set_cons_zero, List.set_cons_succ, if_true, if_false, Bool.false_eq_true, id, Nat.sub_zero, Bool.not_true, Bool.not_false, true_and, and_true, ne_eq, not_false_eq_true, not_true_eq_false, reduceCtorEq, Option.map_some, Option.bind_some, String.reduceBEq, Bool.or_false, Bool.or_true, Bool.false_or, Bool.true_or, Bool.and_true, Bool.and_false, Bool.true_and, Bool.false_and, decide_true, decide_false, List.all_cons, List.all_nil, List.any_cons, List.any_nil, beq_self_eq_true, cut_to (show (0 : Int) ≤ 1 by decide), cut_from (show (0 : Int) ≤ 1 by decide)]
      refine ⟨by rw [List.length_take]; omega, by decide, ?_⟩
      have : r = 0 ∨ r = 1 ∨ r = 2 ∨ r = 3 := by omega
      rcases this with rfl | rfl | rfl | rfl
      · exact dn (by omega) ⟨by omega, h'.2.1, hgs⟩ (by show wxs ws ≤ 2 * wxs ws + 100; omega)
      · exact dn (by omega) ⟨by omega, by rw [List.length_drop]; omega, gxs_sub hgs fun u hu => List.mem_of_mem_drop hu⟩ (by show wxs (ws.drop 1) ≤ 2 * wxs ws + 100; have := wxs_drop ws 1; omega)
      · refine dn (by omega) ⟨by omega, by rw [List.length_append, List.length_take]; omega, gxs_sub hgs fun u hu => ?_⟩ (by show wxs (ws ++ ws.take 1) ≤ 2 * wxs ws + 100; have := wxs_take ws 1; rw [wxs_app]; omega)
        rcases List.mem_append.mp hu with hu | hu
        · exact hu
        · exact List.mem_of_mem_take hu
      · exact dn (by omega) ⟨by omega, by rw [List.length_reverse]; omega, gxs_sub hgs fun u hu => List.mem_reverse.mp hu⟩ (by show wxs ws.reverse ≤ 2 * wxs ws + 100; rw [wxs_rev]; omega)
    · rw [if_neg (by rw [decide_eq_true_eq]; exact h4)]
      exact odd _ (by omega)
  | ref _ => exact hg.elim
  | ty _ => exact hg.elim
  | exc _ _ _ _ => exact hg.elim
  | _ =>
    simp only [Dz.dSeq, Dz.dIf, Dz.dB, Dz.dOp, Dz.dUn, Dz.dVar, Dz.dC, Dz.dRet, Dz.dRetN, Dz.dNx, Dz.dBrk, Dz.dCnt, Dz.dAsg, Dz.dSet, Dz.dPar, Dz.dPar3, Dz.dgT, Dz.dgTt, Dz.dgCons, Dz.dgNil, Dz.dgN, Dz.dCall, Dz.dCons, Dz.dNil, Dz.dTup, Dz.dCB, Dz.dCN, Dz.dF, Dz.dM, Dz.dSz, Dz.dExpr, Dz.dNot, Dz.dAnd, Dz.dOr, Dz.dAndV, Dz.dOrV, Dz.dNotV, Dz.dIfE, Dz.dChain, Dz.dFrz, Dz.dIt, Dz.dRng1, Dz.dRng2, Dz.dSl, Dz.dNoPart, Dz.dPart, Dz.dCat, Dz.dRep, Dz.dLc, Dz.dFor, Dz.dAppend, Dz.dPop, Dz.dPopAt, Dz.rPopAtD, Dz.dSetIx, Dz.dYes, Dz.dRev, Dz.asI, Dz.asQ, Dz.asL, Dz.rIsN, Dz.rIs, Dz.rIsNot, Dz.isNon_d, Dz.isNon_non, Dz.isNon_tup, Dz.isNon_lst, Dz.isNon_str, Dz.isNon_int, Dz.isNon_bl, Dz.isNon_ref, Dz.isNon_dic, Dz.isNon_ty, Dz.rAddU, Dz.rSub, Dz.rMod, Dz.rDiv, Dz.rPow, Dz.rLt, Dz.rLe, Dz.rGt, Dz.rGe, Dz.rEq, Dz.rNe, Dz.rEqv, Dz.rInt2, Dz.rMax2, Dz.rMin2, Dz.rI, Dz.rCmp, Dz.rIxU, Dz.rAbs, Dz.rToInt, Dz.rListU, Dz.rSlU, Dz.trk, Dz.rLenU, Dz.rMulU, Dz.rNeg, Dz.startD, Dz.wipeD, Dz.Tr.d, Dz.Sg.put_M, Dz.Sg.put_n, Dz.Sg.put_pv, Dz.Sg.del_M, Dz.Sg.del_n, Dz.Sg.del_pv, Dz.Mm.put_same, Dz.Mm.put_put, Dz.Sg.put_put, Dz.Mm.put_ne, Dz.Mm.del_ne, Dz.rIsi, Dz.tyN, Dz.tyNames, Dz.isiT, Dz.subT, Dz.tyOk, Dz.tyNames, Dz.pyOf, Dz.toPy, Dz.toPys, Dz.Sg.put_mk, Dz.Sg.del_mk, Dz.spend_M, Dz.spend_pv, Dz.spend_n, Dz.spend_spend, Dz.spend_put, Dz.spend_del, Dz.spNext_iff, Dz.asI_lst, Dz.asI_tup, Dz.dFJ, Dz.dJs, Dz.dFmt, Dz.Tr.isNil, Gz.gPlain, Gz.gSeq, Gz.gNx, Gz.gIf, Gz.gYield, Gz.gOut, Gz.gForG, Gz.dGCall, Gz.dListG, Gz.dForG, Gz.GE.at, Dz.dDGet, Dz.rDGet, Dz.dDGet2, Dz.dDIn, Dz.dDSet, Dz.rDSet, Dz.dDF, Dz.dDM, Dz.dD0, Dz.dDc, Dz.rTupU, Dz.dStar, Dz.keyD, Dz.asD, Dz.dExtend, Dz.rExtendD, Dz.dFld, Dz.dSetFld, Dz.dMeth, Dz.dMake, Dz.dDictP, Dz.dDd, Dz.dPairs, Dz.dTab, Dz.dAugS, Dz.dNever, Dz.dIndex, Dz.dIndexT, List.map_cons, List.map_nil, List.length_cons, List.length_nil, List.length_map, List.length_set, List.replicate, Nat.reduceSub, Nat.reduceAdd, List.cons_append, List.nil_append, List.getElem?_cons_zero, List.getElem?_cons_succ, List.set_cons_zero, List.set_cons_succ, if_true, if_false, Bool.false_eq_true, id, Nat.sub_zero, Bool.not_true, Bool.not_false, true_and, and_true, ne_eq, not_false_eq_true, not_true_eq_false, reduceCtorEq, Option.map_some, Option.bind_some, String.reduceBEq, Bool.or_false, Bool.or_true, Bool.false_or, Bool.true_or, Bool.and_true, Bool.and_false, Bool.true_and, Bool.false_and, decide_true, decide_false, List.all_cons, List.all_nil, List.any_cons, List.any_nil, beq_self_eq_true, t2_bent]
    exact ⟨hp, by decide, by decide, by omega, fun r r0 r1 => odd _ (by omega)⟩
theorem e_law_bent (n : Nat) : ∀ ws s R, spBent (n + 1) ws s R X0 → ws.length = 2 ∧ t_law_bent spNext (spBent n) spOdd { nx := fun _ s' => Lw R .non s', rt := Lw R } (Dz.startD N_law_bent ws) s := by
  rintro ws s R ⟨p, w, m, rfl, hp, hg, hm, hw, hn, hR⟩
  refine ⟨rfl, ?_⟩
  rw [t_bent_eq]
  have tl : ∀ (e2 : Option D) (j : Nat), j ≤ 1 → _ := fun e2 j hj => tail_ok (e2 := e2) hj hp hg hw hn hR
  cases w with
  | tup ws =>
    have h' : 0 < m ∧ ws.length ≤ 100000 ∧ gxs ws (m - 1) := hg
    have hw' : wxs ws ≤ 5000 := hw
    have hl := len_wx ws
    simp only [Dz.dSeq, Dz.dIf, Dz.dB, Dz.dOp, Dz.dUn, Dz.dVar, Dz.dC, Dz.dRet, Dz.dRetN, Dz.dNx, Dz.dBrk, Dz.dCnt, Dz.dAsg, Dz.dSet, Dz.dPar, Dz.dPar3, Dz.dgT, Dz.dgTt, Dz.dgCons, Dz.dgNil, Dz.dgN, Dz.dCall, Dz.dCons, Dz.dNil, Dz.dTup, Dz.dCB, Dz.dCN, Dz.dF, Dz.dM, Dz.dSz, Dz.dExpr, Dz.dNot, Dz.dAnd, Dz.dOr, Dz.dAndV, Dz.dOrV, Dz.dNotV, Dz.dIfE, Dz.dChain, Dz.dFrz, Dz.dIt, Dz.dRng1, Dz.dRng2, Dz.dSl, Dz.dNoPart, Dz.dPart, Dz.dCat, Dz.dRep, Dz.dLc, Dz.dFor, Dz.dAppend, Dz.dPop, Dz.dPopAt, Dz.rPopAtD, Dz.dSetIx, Dz.dYes, Dz.dRev, Dz.asI, Dz.asQ, Dz.asL, Dz.rIsN, Dz.rIs, Dz.rIsNot, Dz.isNon_d, Dz.isNon_non, Dz.isNon_tup, Dz.isNon_lst, Dz.isNon_str, Dz.isNon_int, Dz.isNon_bl, Dz.isNon_ref, Dz.isNon_dic, Dz.isNon_ty, Dz.rAddU, Dz.rSub, Dz.rMod, Dz.rDiv, Dz.rPow, Dz.rLt, Dz.rLe, Dz.rGt, Dz.rGe, Dz.rEq, Dz.rNe, Dz.rEqv, Dz.rInt2, Dz.rMax2, Dz.rMin2, Dz.rI, Dz.rCmp, Dz.rIxU, Dz.rAbs, Dz.rToInt, Dz.rListU, Dz.rSlU, Dz.trk, Dz.rLenU, Dz.rMulU, Dz.rNeg, Dz.startD, Dz.wipeD, Dz.Tr.d, Dz.Sg.put_M, Dz.Sg.put_n, Dz.Sg.put_pv, Dz.Sg.del_M, Dz.Sg.del_n, Dz.Sg.del_pv, Dz.Mm.put_same, Dz.Mm.put_put, Dz.Sg.put_put, Dz.Mm.put_ne, Dz.Mm.del_ne, Dz.rIsi, Dz.tyN, Dz.tyNames, Dz.isiT, Dz.subT, Dz.tyOk, Dz.tyNames, Dz.pyOf, Dz.toPy, Dz.toPys, Dz.Sg.put_mk, Dz.Sg.del_mk, Dz.spend_M, Dz.spend_pv, Dz.spend_n, Dz.spend_spend, Dz.spend_put, Dz.spend_del, Dz.spNext_iff, Dz.asI_lst, Dz.asI_tup, Dz.dFJ, Dz.dJs, Dz.dFmt, Dz.Tr.isNil, Gz.gPlain, Gz.gSeq, Gz.gNx, Gz.gIf, Gz.gYield, Gz.gOut, Gz.gForG, Gz.dGCall, Gz.dListG, Gz.dForG, Gz.GE.at, Dz.dDGet, Dz.rDGet, Dz.dDGet2, Dz.dDIn, Dz.dDSet, Dz.rDSet, Dz.dDF, Dz.dDM, Dz.dD0, Dz.dDc, Dz.rTupU, Dz.dStar, Dz.keyD, Dz.asD, Dz.dExtend, Dz.rExtendD, Dz.dFld, Dz.dSetFld, Dz.dMeth, Dz.dMake, Dz.dDictP, Dz.dDd, Dz.dPairs, Dz.dTab, Dz.dAugS, Dz.dNever, Dz.dIndex, Dz.dIndexT, List.map_cons, List.map_nil, List.length_cons, List.length_nil, List.length_map, List.length_set, List.replicate, Nat.reduceSub, Nat.reduceAdd, List.cons_append, List.nil_append, List.getElem?_cons_zero, List.getElem?_cons_succ, List.set_cons_zero, List.set_cons_succ, if_true, if_false, Bool.false_eq_true, id, Nat.sub_zero, Bool.not_true, Bool.not_false, true_and, and_true, ne_eq, not_false_eq_true, not_true_eq_false, reduceCtorEq, Option.map_some, Option.bind_some, String.reduceBEq, Bool.or_false, Bool.or_true, Bool.false_or, Bool.true_or, Bool.and_true, Bool.and_false, Bool.true_and, Bool.false_and, decide_true, decide_false, List.all_cons, List.all_nil, List.any_cons, List.any_nil, beq_self_eq_true, Dz.rNe0]
    cases ws with
    | nil =>
      simp only [Dz.dSeq, Dz.dIf, Dz.dB, Dz.dOp, Dz.dUn, Dz.dVar, Dz.dC, Dz.dRet, Dz.dRetN, Dz.dNx, Dz.dBrk, Dz.dCnt, Dz.dAsg, Dz.dSet, Dz.dPar, Dz.dPar3, Dz.dgT, Dz.dgTt, Dz.dgCons, Dz.dgNil, Dz.dgN, Dz.dCall, Dz.dCons, Dz.dNil, Dz.dTup, Dz.dCB, Dz.dCN, Dz.dF, Dz.dM, Dz.dSz, Dz.dExpr, Dz.dNot, Dz.dAnd, Dz.dOr, Dz.dAndV, Dz.dOrV, Dz.dNotV, Dz.dIfE, Dz.dChain, Dz.dFrz, Dz.dIt, Dz.dRng1, Dz.dRng2, Dz.dSl, Dz.dNoPart, Dz.dPart, Dz.dCat, Dz.dRep, Dz.dLc, Dz.dFor, Dz.dAppend, Dz.dPop, Dz.dPopAt, Dz.rPopAtD, Dz.dSetIx, Dz.dYes, Dz.dRev, Dz.asI, Dz.asQ, Dz.asL, Dz.rIsN, Dz.rIs, Dz.rIsNot, Dz.isNon_d, Dz.isNon_non, Dz.isNon_tup, Dz.isNon_lst, Dz.isNon_str, Dz.isNon_int, Dz.isNon_bl, Dz.isNon_ref, Dz.isNon_dic, Dz.isNon_ty, Dz.rAddU, Dz.rSub, Dz.rMod, Dz.rDiv, Dz.rPow, Dz.rLt, Dz.rLe, Dz.rGt, Dz.rGe, Dz.rEq, Dz.rNe, Dz.rEqv, Dz.rInt2, Dz.rMax2, Dz.rMin2, Dz.rI, Dz.rCmp, Dz.rIxU, Dz.rAbs, Dz.rToInt, Dz.rListU, Dz.rSlU, Dz.trk, Dz.rLenU, Dz.rMulU, Dz.rNeg, Dz.startD, Dz.wipeD, Dz.Tr.d, Dz.Sg.put_M, Dz.Sg.put_n, Dz.Sg.put_pv, Dz.Sg.del_M, Dz.Sg.del_n, Dz.Sg.del_pv, Dz.Mm.put_same, Dz.Mm.put_put, Dz.Sg.put_put, Dz.Mm.put_ne, Dz.Mm.del_ne, Dz.rIsi, Dz.tyN, Dz.tyNames, Dz.isiT, Dz.subT, Dz.tyOk, Dz.tyNames, Dz.pyOf, Dz.toPy, Dz.toPys, Dz.Sg.put_mk, Dz.Sg.del_mk, Dz.spend_M, Dz.spend_pv, Dz.spend_n, Dz.spend_spend, Dz.spend_put, Dz.spend_del, Dz.spNext_iff, Dz.asI_lst, Dz.asI_tup, Dz.dFJ, Dz.dJs, Dz.dFmt, Dz.Tr.isNil, Gz.gPlain, Gz.gSeq, Gz.gNx, Gz.gIf, Gz.gYield, Gz.gOut, Gz.gForG, Gz.dGCall, Gz.dListG, Gz.dForG, Gz.GE.at, Dz.dDGet, Dz.rDGet, Dz.dDGet2, Dz.dDIn, Dz.dDSet, Dz.rDSet, Dz.dDF, Dz.dDM, Dz.dD0, Dz.dDc, Dz.rTupU, Dz.dStar, Dz.keyD, Dz.asD, Dz.dExtend, Dz.rExtendD, Dz.dFld, Dz.dSetFld, Dz.dMeth, Dz.dMake, Dz.dDictP, Dz.dDd, Dz.dPairs, Dz.dTab, Dz.dAugS, Dz.dNever, Dz.dIndex, Dz.dIndexT, List.map_cons, List.map_nil, List.length_cons, List.length_nil, List.length_map, List.length_set, List.replicate, Nat.reduceSub, Nat.reduceAdd, List.cons_append, List.nil_append, List.getElem?_cons_zero, List.getElem?_cons_succ, List.set_cons_zero, List.set_cons_succ, if_true, if_false, Bool.false_eq_true, id, Nat.sub_zero, Bool.not_true, Bool.not_false, true_and, and_true, ne_eq, not_false_eq_true, not_true_eq_false, reduceCtorEq, Option.map_some, Option.bind_some, String.reduceBEq, Bool.or_false, Bool.or_true, Bool.false_or, Bool.true_or, Bool.and_true, Bool.and_false, Bool.true_and, Bool.false_and, decide_true, decide_false, List.all_cons, List.all_nil, List.any_cons, List.any_nil, beq_self_eq_true, List.isEmpty_nil]
      exact tl none 0 (by omega)
    | cons x xs =>
      simp only [Dz.dSeq, Dz.dIf, Dz.dB, Dz.dOp, Dz.dUn, Dz.dVar, Dz.dC, Dz.dRet, Dz.dRetN, Dz.dNx, Dz.dBrk, Dz.dCnt, Dz.dAsg, Dz.dSet, Dz.dPar, Dz.dPar3, Dz.dgT, Dz.dgTt, Dz.dgCons, Dz.dgNil, Dz.dgN, Dz.dCall, Dz.dCons, Dz.dNil, Dz.dTup, Dz.dCB, Dz.dCN, Dz.dF, Dz.dM, Dz.dSz, Dz.dExpr, Dz.dNot, Dz.dAnd, Dz.dOr, Dz.dAndV, Dz.dOrV, Dz.dNotV, Dz.dIfE, Dz.dChain, Dz.dFrz, Dz.dIt, Dz.dRng1, Dz.dRng2, Dz.dSl, Dz.dNoPart, Dz.dPart, Dz.dCat, Dz.dRep, Dz.dLc, Dz.dFor, Dz.dAppend, Dz.dPop, Dz.dPopAt, Dz.rPopAtD, Dz.dSetIx, Dz.dYes, Dz.dRev, Dz.asI, Dz.asQ, Dz.asL, Dz.rIsN, Dz.rIs, Dz.rIsNot, Dz.isNon_d, Dz.isNon_non, Dz.isNon_tup, Dz.isNon_lst, Dz.isNon_str, Dz.isNon_int, Dz.isNon_bl, Dz.isNon_ref, Dz.isNon_dic, Dz.isNon_ty, Dz.rAddU, Dz.rSub, Dz.rMod, Dz.rDiv, Dz.rPow, Dz.rLt, Dz.rLe, Dz.rGt, Dz.rGe, Dz.rEq, Dz.rNe, Dz.rEqv, Dz.rInt2, Dz.rMax2, Dz.rMin2, Dz.rI, Dz.rCmp, Dz.rIxU, Dz.rAbs, Dz.rToInt, Dz.rListU, Dz.rSlU, Dz.trk, Dz.rLenU, Dz.rMulU, Dz.rNeg, Dz.startD, Dz.wipeD, Dz.Tr.d, Dz.Sg.put_M, Dz.Sg.put_n, Dz.Sg.put_pv, Dz.Sg.del_M, Dz.Sg.del_n, Dz.Sg.del_pv, Dz.Mm.put_same, Dz.Mm.put_put, Dz.Sg.put_put, Dz.Mm.put_ne, Dz.Mm.del_ne, Dz.rIsi, Dz.tyN, Dz.tyNames, Dz.isiT, Dz.subT, Dz.tyOk, Dz.tyNames, Dz.pyOf, Dz.toPy, Dz.toPys, Dz.Sg.put_mk, Dz.Sg.del_mk, Dz.spend_M, Dz.spend_pv, Dz.spend_n, Dz.spend_spend, Dz.spend_put, Dz.spend_del, Dz.spNext_iff, Dz.asI_lst, Dz.asI_tup, Dz.dFJ, Dz.dJs, Dz.dFmt, Dz.Tr.isNil, Gz.gPlain, Gz.gSeq, Gz.gNx, Gz.gIf, Gz.gYield, Gz.gOut, Gz.gForG, Gz.dGCall, Gz.dListG, Gz.dForG, Gz.GE.at, Dz.dDGet, Dz.rDGet, Dz.dDGet2, Dz.dDIn, Dz.dDSet, Dz.rDSet, Dz.dDF, Dz.dDM, Dz.dD0, Dz.dDc, Dz.rTupU, Dz.dStar, Dz.keyD, Dz.asD, Dz.dExtend, Dz.rExtendD, Dz.dFld, Dz.dSetFld, Dz.dMeth, Dz.dMake, Dz.dDictP, Dz.dDd, Dz.dPairs, Dz.dTab, Dz.dAugS, Dz.dNever, Dz.dIndex, Dz.dIndexT, List.map_cons, List.map_nil, List.length_cons, List.length_nil, List.length_map, List.length_set, List.replicate, Nat.reduceSub, Nat.reduceAdd, List.cons_append, List.nil_append, List.getElem?_cons_zero, List.getElem?_cons_succ, List.set_cons_zero, List.set_cons_succ, if_true, if_false, Bool.false_eq_true, id, Nat.sub_zero, Bool.not_true, Bool.not_false, true_and, and_true, ne_eq, not_false_eq_true, not_true_eq_false, reduceCtorEq, Option.map_some, Option.bind_some, String.reduceBEq, Bool.or_false, Bool.or_true, Bool.false_or, Bool.true_or, Bool.and_true, Bool.and_false, Bool.true_and, Bool.false_and, decide_true, decide_false, List.all_cons, List.all_nil, List.any_cons, List.any_nil, beq_self_eq_true, List.isEmpty_cons]
      refine ⟨hp, by decide, by decide, by omega, fun r r0 r1 => ?_⟩
      by_cases h4 : 0 < r
      · rw [if_pos (decide_eq_true h4)]
        rw [List.length_cons] at h' hl
        refine ⟨hp, by omega, by omega, by omega, fun k k0 k1 => ?_⟩
        obtain ⟨y, y1, y2, y3⟩ := atI_map (f := id) (xs := x :: xs) (i := k) k0 (by rw [List.length_cons]; exact k1)
        rw [List.map_id, id] at y3
        rw [y3]
        dsimp only
        refine ⟨p, y, m - 1, rfl, hp, gxs_mem h'.2.2 y2, by omega, ?_, by rw [spend_n]; omega, fun w' g1 g2 => ?_⟩
        · have := (show ∀ {l : List D}, y ∈ l → wx y ≤ wxs l from fun {l} => by
            induction l with
            | nil => intro h; exact nomatch h
            | cons u l ih =>
              intro h
              show wx y ≤ wx u + 1 + wxs l
              rcases List.mem_cons.mp h with rfl | h
              · omega
              · have := ih h; omega) y2
          omega
        · generalize hX : x :: xs = X at *
          have hkl : k.toNat < X.length := by rw [← hX, List.length_cons]; omega
          rw [cut_to k0, cut_from (by omega), show (k + 1).toNat = k.toNat + 1 by omega, spend_spend]
          have hXl : X.length ≤ 5000 := by have := len_wx X; omega
          refine ⟨by decide, by rw [List.length_take]; omega, by simp only [List.length_append, List.length_take, List.length_drop, List.length_cons, List.length_nil]; omega, .more (by omega) (hR _ ⟨by omega, ?_, ?_⟩ ?_)⟩
          · simp only [List.length_append, List.length_take, List.length_drop, List.length_cons, List.length_nil]; omega
          · refine gxs_of fun u hu => ?_
            rcases List.mem_append.mp hu with hu | hu
            · rcases List.mem_append.mp hu with hu | hu
              · exact gx_mono _ _ _ (by omega) (gxs_mem h'.2.2 (List.mem_of_mem_take hu))
              · rw [List.mem_singleton.mp hu]
                exact gx_mono _ _ _ (by omega) g1
            · exact gx_mono _ _ _ (by omega) (gxs_mem h'.2.2 (List.mem_of_mem_drop hu))
          · show wxs (X.take k.toNat ++ [w'] ++ X.drop (k.toNat + 1)) ≤ 2 * wxs X + 100
            have e1 : wxs X = wxs (X.take k.toNat) + (wx y + 1 + wxs (X.drop (k.toNat + 1))) := by
              conv => lhs; rw [← List.take_append_drop k.toNat X, wxs_app, List.drop_eq_getElem_cons hkl]
              rw [List.getElem?_eq_getElem hkl] at y1
              rw [Option.some.inj y1]; rfl
            rw [wxs_app, wxs_app]
            show wxs (X.take k.toNat) + (wx w' + 1 + 0) + wxs (X.drop (k.toNat + 1)) ≤ 2 * wxs X + 100
            omega
      · rw [if_neg (by rw [decide_eq_true_eq]; exact h4)]
        exact tl none 1 (by omega)
  | ref _ => exact hg.elim
  | ty _ => exact hg.elim
  | exc _ _ _ _ => exact hg.elim
  | _ =>
    simp only [Dz.dSeq, Dz.dIf, Dz.dB, Dz.dOp, Dz.dUn, Dz.dVar, Dz.dC, Dz.dRet, Dz.dRetN, Dz.dNx, Dz.dBrk, Dz.dCnt, Dz.dAsg, Dz.dSet, Dz.dPar, Dz.dPar3, Dz.dgT, Dz.dgTt, Dz.dgCons, Dz.dgNil, Dz.dgN, Dz.dCall, Dz.dCons, Dz.dNil, Dz.dTup, Dz.dCB, Dz.dCN, Dz.dF, Dz.dM, Dz.dSz, Dz.dExpr, Dz.dNot, Dz.dAnd, Dz.dOr, Dz.dAndV, Dz.dOrV, Dz.dNotV, Dz.dIfE, Dz.dChain, Dz.dFrz, Dz.dIt, Dz.dRng1, Dz.dRng2, Dz.dSl, Dz.dNoPart, Dz.dPart, Dz.dCat, Dz.dRep, Dz.dLc, Dz.dFor, Dz.dAppend, Dz.dPop, Dz.dPopAt, Dz.rPopAtD, Dz.dSetIx, Dz.dYes, Dz.dRev, Dz.asI, Dz.asQ, Dz.asL, Dz.rIsN, Dz.rIs, Dz.rIsNot, Dz.isNon_d, Dz.isNon_non, Dz.isNon_tup, Dz.isNon_lst, Dz.isNon_str, Dz.isNon_int, Dz.isNon_bl, Dz.isNon_ref, Dz.isNon_dic, Dz.isNon_ty, Dz.rAddU, Dz.rSub, Dz.rMod, Dz.rDiv, Dz.rPow, Dz.rLt, Dz.rLe, Dz.rGt, Dz.rGe, Dz.rEq, Dz.rNe, Dz.rEqv, Dz.rInt2, Dz.rMax2, Dz.rMin2, Dz.rI, Dz.rCmp, Dz.rIxU, Dz.rAbs, Dz.rToInt, Dz.rListU, Dz.rSlU, Dz.trk, Dz.rLenU, Dz.rMulU, Dz.rNeg, Dz.startD, Dz.wipeD, Dz.Tr.d, Dz.Sg.put_M, Dz.Sg.put_n, Dz.Sg.put_pv, Dz.Sg.del_M, Dz.Sg.del_n, Dz.Sg.del_pv, Dz.Mm.put_same, Dz.Mm.put_put, Dz.Sg.put_put, Dz.Mm.put_ne, Dz.Mm.del_ne, Dz.rIsi, Dz.tyN, Dz.tyNames, Dz.isiT, Dz.subT, Dz.tyOk, Dz.tyNames, Dz.pyOf, Dz.toPy, Dz.toPys, Dz.Sg.put_mk, Dz.Sg.del_mk, Dz.spend_M, Dz.spend_pv, Dz.spend_n, Dz.spend_spend, Dz.spend_put, Dz.spend_del, Dz.spNext_iff, Dz.asI_lst, Dz.asI_tup, Dz.dFJ, Dz.dJs, Dz.dFmt, Dz.Tr.isNil, Gz.gPlain, Gz.gSeq, Gz.gNx, Gz.gIf, Gz.gYield, Gz.gOut, Gz.gForG, Gz.dGCall, Gz.dListG, Gz.dForG, Gz.GE.at, Dz.dDGet, Dz.rDGet, Dz.dDGet2, Dz.dDIn, Dz.dDSet, Dz.rDSet, Dz.dDF, Dz.dDM, Dz.dD0, Dz.dDc, Dz.rTupU, Dz.dStar, Dz.keyD, Dz.asD, Dz.dExtend, Dz.rExtendD, Dz.dFld, Dz.dSetFld, Dz.dMeth, Dz.dMake, Dz.dDictP, Dz.dDd, Dz.dPairs, Dz.dTab, Dz.dAugS, Dz.dNever, Dz.dIndex, Dz.dIndexT, List.map_cons, List.map_nil, List.length_cons, List.length_nil, List.length_map, List.length_set, List.replicate, Nat.reduceSub, Nat.reduceAdd, List.cons_append, List.nil_append, List.getElem?_cons_zero, List.getElem?_cons_succ, List.set_cons_zero, List.set_cons_succ, if_true, if_false, Bool.false_eq_true, id, Nat.sub_zero, Bool.not_true, Bool.not_false, true_and, and_true, ne_eq, not_false_eq_true, not_true_eq_false, reduceCtorEq, Option.map_some, Option.bind_some, String.reduceBEq, Bool.or_false, Bool.or_true, Bool.false_or, Bool.true_or, Bool.and_true, Bool.and_false, Bool.true_and, Bool.false_and, decide_true, decide_false, List.all_cons, List.all_nil, List.any_cons, List.any_nil, beq_self_eq_true]
    exact tl none 0 (by omega)
def vals0 : List D := [.non, .tup [], .str "a", .tup [.str "a"], .tup [.non, .non, .non], .tup [.str "a", .str "a", .str "a"], .tup [.non, .bl true, .non], .tup [.non, .str "a", .tup []]]
def Vv (w : D) : Prop := Vl w 30
theorem vals0_ok : ∀ w ∈ vals0, Vv w := by
  have a2 : PyData.strOk "a" = true := by decide +kernel
  intro w hw
  simp only [vals0, List.mem_cons, List.not_mem_nil, or_false] at hw
  rcases hw with rfl | rfl | rfl | rfl | rfl | rfl | rfl | rfl <;> exact ⟨by simp [gx, gxs, a2], by decide, by decide⟩
def spLaw : SpD := fun ws s R _ => ∃ ns : List Int, ws = [.lst (ns.map D.int)] ∧ s = s0 ∧ ∀ s', R (.bl true) s'
theorem e_law : ∀ ws s R, spLaw ws s R X0 → ws.length = 1 ∧ t_law spDeck (spTree 12) (spBent 60) spOdd (spCount 60) (spSame 70) spIsTree { nx := fun _ s' => Lw R .non s', rt := Lw R } (Dz.startD N_law ws) s := by
  rintro ws s R ⟨ns, rfl, rfl, hR⟩
  refine ⟨rfl, ?_⟩
  simp only [Dz.dSeq, Dz.dIf, Dz.dB, Dz.dOp, Dz.dUn, Dz.dVar, Dz.dC, Dz.dRet, Dz.dRetN, Dz.dNx, Dz.dBrk, Dz.dCnt, Dz.dAsg, Dz.dSet, Dz.dPar, Dz.dPar3, Dz.dgT, Dz.dgTt, Dz.dgCons, Dz.dgNil, Dz.dgN, Dz.dCall, Dz.dCons, Dz.dNil, Dz.dTup, Dz.dCB, Dz.dCN, Dz.dF, Dz.dM, Dz.dSz, Dz.dExpr, Dz.dNot, Dz.dAnd, Dz.dOr, Dz.dAndV, Dz.dOrV, Dz.dNotV, Dz.dIfE, Dz.dChain, Dz.dFrz, Dz.dIt, Dz.dRng1, Dz.dRng2, Dz.dSl, Dz.dNoPart, Dz.dPart, Dz.dCat, Dz.dRep, Dz.dLc, Dz.dFor, Dz.dAppend, Dz.dPop, Dz.dPopAt, Dz.rPopAtD, Dz.dSetIx, Dz.dYes, Dz.dRev, Dz.asI, Dz.asQ, Dz.asL, Dz.rIsN, Dz.rIs, Dz.rIsNot, Dz.isNon_d, Dz.isNon_non, Dz.isNon_tup, Dz.isNon_lst, Dz.isNon_str, Dz.isNon_int, Dz.isNon_bl, Dz.isNon_ref, Dz.isNon_dic, Dz.isNon_ty, Dz.rAddU, Dz.rSub, Dz.rMod, Dz.rDiv, Dz.rPow, Dz.rLt, Dz.rLe, Dz.rGt, Dz.rGe, Dz.rEq, Dz.rNe, Dz.rEqv, Dz.rInt2, Dz.rMax2, Dz.rMin2, Dz.rI, Dz.rCmp, Dz.rIxU, Dz.rAbs, Dz.rToInt, Dz.rListU, Dz.rSlU, Dz.trk, Dz.rLenU, Dz.rMulU, Dz.rNeg, Dz.startD, Dz.wipeD, Dz.Tr.d, Dz.Sg.put_M, Dz.Sg.put_n, Dz.Sg.put_pv, Dz.Sg.del_M, Dz.Sg.del_n, Dz.Sg.del_pv, Dz.Mm.put_same, Dz.Mm.put_put, Dz.Sg.put_put, Dz.Mm.put_ne, Dz.Mm.del_ne, Dz.rIsi, Dz.tyN, Dz.tyNames, Dz.isiT, Dz.subT, Dz.tyOk, Dz.tyNames, Dz.pyOf, Dz.toPy, Dz.toPys, Dz.Sg.put_mk, Dz.Sg.del_mk, Dz.spend_M, Dz.spend_pv, Dz.spend_n, Dz.spend_spend, Dz.spend_put, Dz.spend_del, Dz.spNext_iff, Dz.asI_lst, Dz.asI_tup, Dz.dFJ, Dz.dJs, Dz.dFmt, Dz.Tr.isNil, Gz.gPlain, Gz.gSeq, Gz.gNx, Gz.gIf, Gz.gYield, Gz.gOut, Gz.gForG, Gz.dGCall, Gz.dListG, Gz.dForG, Gz.GE.at, Dz.dDGet, Dz.rDGet, Dz.dDGet2, Dz.dDIn, Dz.dDSet, Dz.rDSet, Dz.dDF, Dz.dDM, Dz.dD0, Dz.dDc, Dz.rTupU, Dz.dStar, Dz.keyD, Dz.asD, Dz.dExtend, Dz.rExtendD, Dz.dFld, Dz.dSetFld, Dz.dMeth, Dz.dMake, Dz.dDictP, Dz.dDd, Dz.dPairs, Dz.dTab, Dz.dAugS, Dz.dNever, Dz.dIndex, Dz.dIndexT, List.map_cons, List.map_nil, List.length_cons, List.length_nil, List.length_map, List.length_set, List.replicate, Nat.reduceSub, Nat.reduceAdd, List.cons_append, List.nil_append, List.getElem?_cons_zero, List.getElem?_cons_succ, List.set_cons_zero, List.set_cons_succ, if_true, if_false, Bool.false_eq_true, id, Nat.sub_zero, Bool.not_true, Bool.not_false, true_and, and_true, ne_eq, not_false_eq_true, not_true_eq_false, reduceCtorEq, Option.map_some, Option.bind_some, String.reduceBEq, Bool.or_false, Bool.or_true, Bool.false_or, Bool.true_or, Bool.and_true, Bool.and_false, Bool.true_and, Bool.false_and, decide_true, decide_false, List.all_cons, List.all_nil, List.any_cons, List.any_nil, beq_self_eq_true, t_law]
  refine ⟨rfl, ns, rfl, fun p s1 hp hn => ?_⟩
  simp only [Dz.dSeq, Dz.dIf, Dz.dB, Dz.dOp, Dz.dUn, Dz.dVar, Dz.dC, Dz.dRet, Dz.dRetN, Dz.dNx, Dz.dBrk, Dz.dCnt, Dz.dAsg, Dz.dSet, Dz.dPar, Dz.dPar3, Dz.dgT, Dz.dgTt, Dz.dgCons, Dz.dgNil, Dz.dgN, Dz.dCall, Dz.dCons, Dz.dNil, Dz.dTup, Dz.dCB, Dz.dCN, Dz.dF, Dz.dM, Dz.dSz, Dz.dExpr, Dz.dNot, Dz.dAnd, Dz.dOr, Dz.dAndV, Dz.dOrV, Dz.dNotV, Dz.dIfE, Dz.dChain, Dz.dFrz, Dz.dIt, Dz.dRng1, Dz.dRng2, Dz.dSl, Dz.dNoPart, Dz.dPart, Dz.dCat, Dz.dRep, Dz.dLc, Dz.dFor, Dz.dAppend, Dz.dPop, Dz.dPopAt, Dz.rPopAtD, Dz.dSetIx, Dz.dYes, Dz.dRev, Dz.asI, Dz.asQ, Dz.asL, Dz.rIsN, Dz.rIs, Dz.rIsNot, Dz.isNon_d, Dz.isNon_non, Dz.isNon_tup, Dz.isNon_lst, Dz.isNon_str, Dz.isNon_int, Dz.isNon_bl, Dz.isNon_ref, Dz.isNon_dic, Dz.isNon_ty, Dz.rAddU, Dz.rSub, Dz.rMod, Dz.rDiv, Dz.rPow, Dz.rLt, Dz.rLe, Dz.rGt, Dz.rGe, Dz.rEq, Dz.rNe, Dz.rEqv, Dz.rInt2, Dz.rMax2, Dz.rMin2, Dz.rI, Dz.rCmp, Dz.rIxU, Dz.rAbs, Dz.rToInt, Dz.rListU, Dz.rSlU, Dz.trk, Dz.rLenU, Dz.rMulU, Dz.rNeg, Dz.startD, Dz.wipeD, Dz.Tr.d, Dz.Sg.put_M, Dz.Sg.put_n, Dz.Sg.put_pv, Dz.Sg.del_M, Dz.Sg.del_n, Dz.Sg.del_pv, Dz.Mm.put_same, Dz.Mm.put_put, Dz.Sg.put_put, Dz.Mm.put_ne, Dz.Mm.del_ne, Dz.rIsi, Dz.tyN, Dz.tyNames, Dz.isiT, Dz.subT, Dz.tyOk, Dz.tyNames, Dz.pyOf, Dz.toPy, Dz.toPys, Dz.Sg.put_mk, Dz.Sg.del_mk, Dz.spend_M, Dz.spend_pv, Dz.spend_n, Dz.spend_spend, Dz.spend_put, Dz.spend_del, Dz.spNext_iff, Dz.asI_lst, Dz.asI_tup, Dz.dFJ, Dz.dJs, Dz.dFmt, Dz.Tr.isNil, Gz.gPlain, Gz.gSeq, Gz.gNx, Gz.gIf, Gz.gYield, Gz.gOut, Gz.gForG, Gz.dGCall, Gz.dListG, Gz.dForG, Gz.GE.at, Dz.dDGet, Dz.rDGet, Dz.dDGet2, Dz.dDIn, Dz.dDSet, Dz.rDSet, Dz.dDF, Dz.dDM, Dz.dD0, Dz.dDc, Dz.rTupU, Dz.dStar, Dz.keyD, Dz.asD, Dz.dExtend, Dz.rExtendD, Dz.dFld, Dz.dSetFld, Dz.dMeth, Dz.dMake, Dz.dDictP, Dz.dDd, Dz.dPairs, Dz.dTab, Dz.dAugS, Dz.dNever, Dz.dIndex, Dz.dIndexT, List.map_cons, List.map_nil, List.length_cons, List.length_nil, List.length_map, List.length_set, List.replicate, Nat.reduceSub, Nat.reduceAdd, List.cons_append, List.nil_append, List.getElem?_cons_zero, List.getElem?_cons_succ, List.set_cons_zero, List.set_cons_succ, if_true, if_false, Bool.false_eq_true, id, Nat.sub_zero, Bool.not_true, Bool.not_false, true_and, and_true, ne_eq, not_false_eq_true, not_true_eq_false, reduceCtorEq, Option.map_some, Option.bind_some, String.reduceBEq, Bool.or_false, Bool.or_true, Bool.false_or, Bool.true_or, Bool.and_true, Bool.and_false, Bool.true_and, Bool.false_and, decide_true, decide_false, List.all_cons, List.all_nil, List.any_cons, List.any_nil, beq_self_eq_true]
  have sz : PyData.strOk "z" = true := by decide +kernel
  have sa : PyData.strOk "a" = true := by decide +kernel
  have sb : PyData.strOk "b" = true := by decide +kernel
  have sB : PyData.strOk "B" = true := by decide +kernel
  refine ⟨by decide, by decide, by decide, by decide, by decide, by decide, by decide, by decide, ?_⟩
  refine for_inv (fun l env s' => ∃ (u v : D) (vs : List D) (e5 : Option D) (k : Nat), env = [some (.lst (ns.map D.int)), some (.ref p), some u, some v, some (.lst vs), e5, none, none, none, none, none, none] ∧ s' = s1 ∧ k + l.length = 13 ∧ gx u k ∧ gx v k ∧ wx u ≤ 4 * k ∧ wx v ≤ 4 * k ∧ (∀ w ∈ vs, Vv w) ∧ vs.length + 2 * l.length = 34) ?_ ?_ ⟨.non, .non, vals0, none, 0, rfl, rfl, by rw [rg_len]; rfl, trivial, trivial, by decide, by decide, vals0_ok, by rw [rg_len]; rfl⟩
  · rintro env s' ⟨u, v, vs, e5, k, rfl, rfl, hk, gu, gv, wu, wv, hv, hl⟩
    simp only [Dz.dSeq, Dz.dIf, Dz.dB, Dz.dOp, Dz.dUn, Dz.dVar, Dz.dC, Dz.dRet, Dz.dRetN, Dz.dNx, Dz.dBrk, Dz.dCnt, Dz.dAsg, Dz.dSet, Dz.dPar, Dz.dPar3, Dz.dgT, Dz.dgTt, Dz.dgCons, Dz.dgNil, Dz.dgN, Dz.dCall, Dz.dCons, Dz.dNil, Dz.dTup, Dz.dCB, Dz.dCN, Dz.dF, Dz.dM, Dz.dSz, Dz.dExpr, Dz.dNot, Dz.dAnd, Dz.dOr, Dz.dAndV, Dz.dOrV, Dz.dNotV, Dz.dIfE, Dz.dChain, Dz.dFrz, Dz.dIt, Dz.dRng1, Dz.dRng2, Dz.dSl, Dz.dNoPart, Dz.dPart, Dz.dCat, Dz.dRep, Dz.dLc, Dz.dFor, Dz.dAppend, Dz.dPop, Dz.dPopAt, Dz.rPopAtD, Dz.dSetIx, Dz.dYes, Dz.dRev, Dz.asI, Dz.asQ, Dz.asL, Dz.rIsN, Dz.rIs, Dz.rIsNot, Dz.isNon_d, Dz.isNon_non, Dz.isNon_tup, Dz.isNon_lst, Dz.isNon_str, Dz.isNon_int, Dz.isNon_bl, Dz.isNon_ref, Dz.isNon_dic, Dz.isNon_ty, Dz.rAddU, Dz.rSub, Dz.rMod, Dz.rDiv, Dz.rPow, Dz.rLt, Dz.rLe, Dz.rGt, Dz.rGe, Dz.rEq, Dz.rNe, Dz.rEqv, Dz.rInt2, Dz.rMax2, Dz.rMin2, Dz.rI, Dz.rCmp, Dz.rIxU, Dz.rAbs, Dz.rToInt, Dz.rListU, Dz.rSlU, Dz.trk, Dz.rLenU, Dz.rMulU, Dz.rNeg, Dz.startD, Dz.wipeD, Dz.Tr.d, Dz.Sg.put_M, Dz.Sg.put_n, Dz.Sg.put_pv, Dz.Sg.del_M, Dz.Sg.del_n, Dz.Sg.del_pv, Dz.Mm.put_same, Dz.Mm.put_put, Dz.Sg.put_put, Dz.Mm.put_ne, Dz.Mm.del_ne, Dz.rIsi, Dz.tyN, Dz.tyNames, Dz.isiT, Dz.subT, Dz.tyOk, Dz.tyNames, Dz.pyOf, Dz.toPy, Dz.toPys, Dz.Sg.put_mk, Dz.Sg.del_mk, Dz.spend_M, Dz.spend_pv, Dz.spend_n, Dz.spend_spend, Dz.spend_put, Dz.spend_del, Dz.spNext_iff, Dz.asI_lst, Dz.asI_tup, Dz.dFJ, Dz.dJs, Dz.dFmt, Dz.Tr.isNil, Gz.gPlain, Gz.gSeq, Gz.gNx, Gz.gIf, Gz.gYield, Gz.gOut, Gz.gForG, Gz.dGCall, Gz.dListG, Gz.dForG, Gz.GE.at, Dz.dDGet, Dz.rDGet, Dz.dDGet2, Dz.dDIn, Dz.dDSet, Dz.rDSet, Dz.dDF, Dz.dDM, Dz.dD0, Dz.dDc, Dz.rTupU, Dz.dStar, Dz.keyD, Dz.asD, Dz.dExtend, Dz.rExtendD, Dz.dFld, Dz.dSetFld, Dz.dMeth, Dz.dMake, Dz.dDictP, Dz.dDd, Dz.dPairs, Dz.dTab, Dz.dAugS, Dz.dNever, Dz.dIndex, Dz.dIndexT, List.map_cons, List.map_nil, List.length_cons, List.length_nil, List.length_map, List.length_set, List.replicate, Nat.reduceSub, Nat.reduceAdd, List.cons_append, List.nil_append, List.getElem?_cons_zero, List.getElem?_cons_succ, List.set_cons_zero, List.set_cons_succ, if_true, if_false, Bool.false_eq_true, id, Nat.sub_zero, Bool.not_true, Bool.not_false, true_and, and_true, ne_eq, not_false_eq_true, not_true_eq_false, reduceCtorEq, Option.map_some, Option.bind_some, String.reduceBEq, Bool.or_false, Bool.or_true, Bool.false_or, Bool.true_or, Bool.and_true, Bool.and_false, Bool.true_and, Bool.false_and, decide_true, decide_false, List.all_cons, List.all_nil, List.any_cons, List.any_nil, beq_self_eq_true]
    refine ⟨by decide, by decide, ?_⟩
    refine for_inv (fun l env s2 => ∃ (e2 e3 : Option D) (vs : List D) (e5 e6 e7 e8 : Option D), env = [some (.lst (ns.map D.int)), some (.ref p), e2, e3, some (.lst vs), e5, e6, e7, e8, none, none, none] ∧ Dk s2 p ∧ l.length * 1000 ≤ s2.n ∧ (∀ w ∈ vs, Vv w) ∧ vs.length + 10 * l.length = 94) ?_ ?_ ⟨_, _, vs, _, none, none, none, rfl, hp, by rw [rg_len, hn]; decide, hv, by rw [rg_len]; simp at hl; omega⟩
    · rintro env s2 ⟨e2, e3, vs, e5, e6, e7, e8, rfl, hp2, hn2, hv2, hl2⟩
      simp only [Dz.dSeq, Dz.dIf, Dz.dB, Dz.dOp, Dz.dUn, Dz.dVar, Dz.dC, Dz.dRet, Dz.dRetN, Dz.dNx, Dz.dBrk, Dz.dCnt, Dz.dAsg, Dz.dSet, Dz.dPar, Dz.dPar3, Dz.dgT, Dz.dgTt, Dz.dgCons, Dz.dgNil, Dz.dgN, Dz.dCall, Dz.dCons, Dz.dNil, Dz.dTup, Dz.dCB, Dz.dCN, Dz.dF, Dz.dM, Dz.dSz, Dz.dExpr, Dz.dNot, Dz.dAnd, Dz.dOr, Dz.dAndV, Dz.dOrV, Dz.dNotV, Dz.dIfE, Dz.dChain, Dz.dFrz, Dz.dIt, Dz.dRng1, Dz.dRng2, Dz.dSl, Dz.dNoPart, Dz.dPart, Dz.dCat, Dz.dRep, Dz.dLc, Dz.dFor, Dz.dAppend, Dz.dPop, Dz.dPopAt, Dz.rPopAtD, Dz.dSetIx, Dz.dYes, Dz.dRev, Dz.asI, Dz.asQ, Dz.asL, Dz.rIsN, Dz.rIs, Dz.rIsNot, Dz.isNon_d, Dz.isNon_non, Dz.isNon_tup, Dz.isNon_lst, Dz.isNon_str, Dz.isNon_int, Dz.isNon_bl, Dz.isNon_ref, Dz.isNon_dic, Dz.isNon_ty, Dz.rAddU, Dz.rSub, Dz.rMod, Dz.rDiv, Dz.rPow, Dz.rLt, Dz.rLe, Dz.rGt, Dz.rGe, Dz.rEq, Dz.rNe, Dz.rEqv, Dz.rInt2, Dz.rMax2, Dz.rMin2, Dz.rI, Dz.rCmp, Dz.rIxU, Dz.rAbs, Dz.rToInt, Dz.rListU, Dz.rSlU, Dz.trk, Dz.rLenU, Dz.rMulU, Dz.rNeg, Dz.startD, Dz.wipeD, Dz.Tr.d, Dz.Sg.put_M, Dz.Sg.put_n, Dz.Sg.put_pv, Dz.Sg.del_M, Dz.Sg.del_n, Dz.Sg.del_pv, Dz.Mm.put_same, Dz.Mm.put_put, Dz.Sg.put_put, Dz.Mm.put_ne, Dz.Mm.del_ne, Dz.rIsi, Dz.tyN, Dz.tyNames, Dz.isiT, Dz.subT, Dz.tyOk, Dz.tyNames, Dz.pyOf, Dz.toPy, Dz.toPys, Dz.Sg.put_mk, Dz.Sg.del_mk, Dz.spend_M, Dz.spend_pv, Dz.spend_n, Dz.spend_spend, Dz.spend_put, Dz.spend_del, Dz.spNext_iff, Dz.asI_lst, Dz.asI_tup, Dz.dFJ, Dz.dJs, Dz.dFmt, Dz.Tr.isNil, Gz.gPlain, Gz.gSeq, Gz.gNx, Gz.gIf, Gz.gYield, Gz.gOut, Gz.gForG, Gz.dGCall, Gz.dListG, Gz.dForG, Gz.GE.at, Dz.dDGet, Dz.rDGet, Dz.dDGet2, Dz.dDIn, Dz.dDSet, Dz.rDSet, Dz.dDF, Dz.dDM, Dz.dD0, Dz.dDc, Dz.rTupU, Dz.dStar, Dz.keyD, Dz.asD, Dz.dExtend, Dz.rExtendD, Dz.dFld, Dz.dSetFld, Dz.dMeth, Dz.dMake, Dz.dDictP, Dz.dDd, Dz.dPairs, Dz.dTab, Dz.dAugS, Dz.dNever, Dz.dIndex, Dz.dIndexT, List.map_cons, List.map_nil, List.length_cons, List.length_nil, List.length_map, List.length_set, List.replicate, Nat.reduceSub, Nat.reduceAdd, List.cons_append, List.nil_append, List.getElem?_cons_zero, List.getElem?_cons_succ, List.set_cons_zero, List.set_cons_succ, if_true, if_false, Bool.false_eq_true, id, Nat.sub_zero, Bool.not_true, Bool.not_false, true_and, and_true, ne_eq, not_false_eq_true, not_true_eq_false, reduceCtorEq, Option.map_some, Option.bind_some, String.reduceBEq, Bool.or_false, Bool.or_true, Bool.false_or, Bool.true_or, Bool.and_true, Bool.and_false, Bool.true_and, Bool.false_and, decide_true, decide_false, List.all_cons, List.all_nil, List.any_cons, List.any_nil, beq_self_eq_true]
      refine for_inv (fun l env s3 => ∃ (e9 e10 e11 : Option D), env = [some (.lst (ns.map D.int)), some (.ref p), e2, e3, some (.lst vs), e5, e6, e7, e8, e9, e10, e11] ∧ s3 = s2 ∧ ∀ w ∈ l, Vv w) ?_ ?_ ⟨_, _, _, rfl, rfl, hv2⟩
      · rintro env s3 ⟨e9, e10, e11, rfl, rfl, -⟩
        simp only [Dz.dSeq, Dz.dIf, Dz.dB, Dz.dOp, Dz.dUn, Dz.dVar, Dz.dC, Dz.dRet, Dz.dRetN, Dz.dNx, Dz.dBrk, Dz.dCnt, Dz.dAsg, Dz.dSet, Dz.dPar, Dz.dPar3, Dz.dgT, Dz.dgTt, Dz.dgCons, Dz.dgNil, Dz.dgN, Dz.dCall, Dz.dCons, Dz.dNil, Dz.dTup, Dz.dCB, Dz.dCN, Dz.dF, Dz.dM, Dz.dSz, Dz.dExpr, Dz.dNot, Dz.dAnd, Dz.dOr, Dz.dAndV, Dz.dOrV, Dz.dNotV, Dz.dIfE, Dz.dChain, Dz.dFrz, Dz.dIt, Dz.dRng1, Dz.dRng2, Dz.dSl, Dz.dNoPart, Dz.dPart, Dz.dCat, Dz.dRep, Dz.dLc, Dz.dFor, Dz.dAppend, Dz.dPop, Dz.dPopAt, Dz.rPopAtD, Dz.dSetIx, Dz.dYes, Dz.dRev, Dz.asI, Dz.asQ, Dz.asL, Dz.rIsN, Dz.rIs, Dz.rIsNot, Dz.isNon_d, Dz.isNon_non, Dz.isNon_tup, Dz.isNon_lst, Dz.isNon_str, Dz.isNon_int, Dz.isNon_bl, Dz.isNon_ref, Dz.isNon_dic, Dz.isNon_ty, Dz.rAddU, Dz.rSub, Dz.rMod, Dz.rDiv, Dz.rPow, Dz.rLt, Dz.rLe, Dz.rGt, Dz.rGe, Dz.rEq, Dz.rNe, Dz.rEqv, Dz.rInt2, Dz.rMax2, Dz.rMin2, Dz.rI, Dz.rCmp, Dz.rIxU, Dz.rAbs, Dz.rToInt, Dz.rListU, Dz.rSlU, Dz.trk, Dz.rLenU, Dz.rMulU, Dz.rNeg, Dz.startD, Dz.wipeD, Dz.Tr.d, Dz.Sg.put_M, Dz.Sg.put_n, Dz.Sg.put_pv, Dz.Sg.del_M, Dz.Sg.del_n, Dz.Sg.del_pv, Dz.Mm.put_same, Dz.Mm.put_put, Dz.Sg.put_put, Dz.Mm.put_ne, Dz.Mm.del_ne, Dz.rIsi, Dz.tyN, Dz.tyNames, Dz.isiT, Dz.subT, Dz.tyOk, Dz.tyNames, Dz.pyOf, Dz.toPy, Dz.toPys, Dz.Sg.put_mk, Dz.Sg.del_mk, Dz.spend_M, Dz.spend_pv, Dz.spend_n, Dz.spend_spend, Dz.spend_put, Dz.spend_del, Dz.spNext_iff, Dz.asI_lst, Dz.asI_tup, Dz.dFJ, Dz.dJs, Dz.dFmt, Dz.Tr.isNil, Gz.gPlain, Gz.gSeq, Gz.gNx, Gz.gIf, Gz.gYield, Gz.gOut, Gz.gForG, Gz.dGCall, Gz.dListG, Gz.dForG, Gz.GE.at, Dz.dDGet, Dz.rDGet, Dz.dDGet2, Dz.dDIn, Dz.dDSet, Dz.rDSet, Dz.dDF, Dz.dDM, Dz.dD0, Dz.dDc, Dz.rTupU, Dz.dStar, Dz.keyD, Dz.asD, Dz.dExtend, Dz.rExtendD, Dz.dFld, Dz.dSetFld, Dz.dMeth, Dz.dMake, Dz.dDictP, Dz.dDd, Dz.dPairs, Dz.dTab, Dz.dAugS, Dz.dNever, Dz.dIndex, Dz.dIndexT, List.map_cons, List.map_nil, List.length_cons, List.length_nil, List.length_map, List.length_set, List.replicate, Nat.reduceSub, Nat.reduceAdd, List.cons_append, List.nil_append, List.getElem?_cons_zero, List.getElem?_cons_succ, List.set_cons_zero, List.set_cons_succ, if_true, if_false, Bool.false_eq_true, id, Nat.sub_zero, Bool.not_true, Bool.not_false, true_and, and_true, ne_eq, not_false_eq_true, not_true_eq_false, reduceCtorEq, Option.map_some, Option.bind_some, String.reduceBEq, Bool.or_false, Bool.or_true, Bool.false_or, Bool.true_or, Bool.and_true, Bool.and_false, Bool.true_and, Bool.false_and, decide_true, decide_false, List.all_cons, List.all_nil, List.any_cons, List.any_nil, beq_self_eq_true]
        exact ⟨by decide, by decide, ⟨.lst [.int 12, .int 20, .int 60, .int 20], 1, rfl, ⟨by decide, by simp, trivial, trivial, trivial, trivial, trivial⟩, by decide, by decide, .of (hR _)⟩⟩
      · rintro x r env s3 N ⟨e9, e10, e11, rfl, rfl, hx⟩ hN
        have vx : Vl x 30 := hx x List.mem_cons_self
        simp only [Dz.dSeq, Dz.dIf, Dz.dB, Dz.dOp, Dz.dUn, Dz.dVar, Dz.dC, Dz.dRet, Dz.dRetN, Dz.dNx, Dz.dBrk, Dz.dCnt, Dz.dAsg, Dz.dSet, Dz.dPar, Dz.dPar3, Dz.dgT, Dz.dgTt, Dz.dgCons, Dz.dgNil, Dz.dgN, Dz.dCall, Dz.dCons, Dz.dNil, Dz.dTup, Dz.dCB, Dz.dCN, Dz.dF, Dz.dM, Dz.dSz, Dz.dExpr, Dz.dNot, Dz.dAnd, Dz.dOr, Dz.dAndV, Dz.dOrV, Dz.dNotV, Dz.dIfE, Dz.dChain, Dz.dFrz, Dz.dIt, Dz.dRng1, Dz.dRng2, Dz.dSl, Dz.dNoPart, Dz.dPart, Dz.dCat, Dz.dRep, Dz.dLc, Dz.dFor, Dz.dAppend, Dz.dPop, Dz.dPopAt, Dz.rPopAtD, Dz.dSetIx, Dz.dYes, Dz.dRev, Dz.asI, Dz.asQ, Dz.asL, Dz.rIsN, Dz.rIs, Dz.rIsNot, Dz.isNon_d, Dz.isNon_non, Dz.isNon_tup, Dz.isNon_lst, Dz.isNon_str, Dz.isNon_int, Dz.isNon_bl, Dz.isNon_ref, Dz.isNon_dic, Dz.isNon_ty, Dz.rAddU, Dz.rSub, Dz.rMod, Dz.rDiv, Dz.rPow, Dz.rLt, Dz.rLe, Dz.rGt, Dz.rGe, Dz.rEq, Dz.rNe, Dz.rEqv, Dz.rInt2, Dz.rMax2, Dz.rMin2, Dz.rI, Dz.rCmp, Dz.rIxU, Dz.rAbs, Dz.rToInt, Dz.rListU, Dz.rSlU, Dz.trk, Dz.rLenU, Dz.rMulU, Dz.rNeg, Dz.startD, Dz.wipeD, Dz.Tr.d, Dz.Sg.put_M, Dz.Sg.put_n, Dz.Sg.put_pv, Dz.Sg.del_M, Dz.Sg.del_n, Dz.Sg.del_pv, Dz.Mm.put_same, Dz.Mm.put_put, Dz.Sg.put_put, Dz.Mm.put_ne, Dz.Mm.del_ne, Dz.rIsi, Dz.tyN, Dz.tyNames, Dz.isiT, Dz.subT, Dz.tyOk, Dz.tyNames, Dz.pyOf, Dz.toPy, Dz.toPys, Dz.Sg.put_mk, Dz.Sg.del_mk, Dz.spend_M, Dz.spend_pv, Dz.spend_n, Dz.spend_spend, Dz.spend_put, Dz.spend_del, Dz.spNext_iff, Dz.asI_lst, Dz.asI_tup, Dz.dFJ, Dz.dJs, Dz.dFmt, Dz.Tr.isNil, Gz.gPlain, Gz.gSeq, Gz.gNx, Gz.gIf, Gz.gYield, Gz.gOut, Gz.gForG, Gz.dGCall, Gz.dListG, Gz.dForG, Gz.GE.at, Dz.dDGet, Dz.rDGet, Dz.dDGet2, Dz.dDIn, Dz.dDSet, Dz.rDSet, Dz.dDF, Dz.dDM, Dz.dD0, Dz.dDc, Dz.rTupU, Dz.dStar, Dz.keyD, Dz.asD, Dz.dExtend, Dz.rExtendD, Dz.dFld, Dz.dSetFld, Dz.dMeth, Dz.dMake, Dz.dDictP, Dz.dDd, Dz.dPairs, Dz.dTab, Dz.dAugS, Dz.dNever, Dz.dIndex, Dz.dIndexT, List.map_cons, List.map_nil, List.length_cons, List.length_nil, List.length_map, List.length_set, List.replicate, Nat.reduceSub, Nat.reduceAdd, List.cons_append, List.nil_append, List.getElem?_cons_zero, List.getElem?_cons_succ, List.set_cons_zero, List.set_cons_succ, if_true, if_false, Bool.false_eq_true, id, Nat.sub_zero, Bool.not_true, Bool.not_false, true_and, and_true, ne_eq, not_false_eq_true, not_true_eq_false, reduceCtorEq, Option.map_some, Option.bind_some, String.reduceBEq, Bool.or_false, Bool.or_true, Bool.false_or, Bool.true_or, Bool.and_true, Bool.and_false, Bool.true_and, Bool.false_and, decide_true, decide_false, List.all_cons, List.all_nil, List.any_cons, List.any_nil, beq_self_eq_true]
        refine rReprX_of vx.1 (by decide) (by have := vx.2.2; omega) ?_
        refine ⟨x, 30, rfl, vx, by decide, ?_⟩
        simp only [Dz.dSeq, Dz.dIf, Dz.dB, Dz.dOp, Dz.dUn, Dz.dVar, Dz.dC, Dz.dRet, Dz.dRetN, Dz.dNx, Dz.dBrk, Dz.dCnt, Dz.dAsg, Dz.dSet, Dz.dPar, Dz.dPar3, Dz.dgT, Dz.dgTt, Dz.dgCons, Dz.dgNil, Dz.dgN, Dz.dCall, Dz.dCons, Dz.dNil, Dz.dTup, Dz.dCB, Dz.dCN, Dz.dF, Dz.dM, Dz.dSz, Dz.dExpr, Dz.dNot, Dz.dAnd, Dz.dOr, Dz.dAndV, Dz.dOrV, Dz.dNotV, Dz.dIfE, Dz.dChain, Dz.dFrz, Dz.dIt, Dz.dRng1, Dz.dRng2, Dz.dSl, Dz.dNoPart, Dz.dPart, Dz.dCat, Dz.dRep, Dz.dLc, Dz.dFor, Dz.dAppend, Dz.dPop, Dz.dPopAt, Dz.rPopAtD, Dz.dSetIx, Dz.dYes, Dz.dRev, Dz.asI, Dz.asQ, Dz.asL, Dz.rIsN, Dz.rIs, Dz.rIsNot, Dz.isNon_d, Dz.isNon_non, Dz.isNon_tup, Dz.isNon_lst, Dz.isNon_str, Dz.isNon_int, Dz.isNon_bl, Dz.isNon_ref, Dz.isNon_dic, Dz.isNon_ty, Dz.rAddU, Dz.rSub, Dz.rMod, Dz.rDiv, Dz.rPow, Dz.rLt, Dz.rLe, Dz.rGt, Dz.rGe, Dz.rEq, Dz.rNe, Dz.rEqv, Dz.rInt2, Dz.rMax2, Dz.rMin2, Dz.rI, Dz.rCmp, Dz.rIxU, Dz.rAbs, Dz.rToInt, Dz.rListU, Dz.rSlU, Dz.trk, Dz.rLenU, Dz.rMulU, Dz.rNeg, Dz.startD, Dz.wipeD, Dz.Tr.d, Dz.Sg.put_M, Dz.Sg.put_n, Dz.Sg.put_pv, Dz.Sg.del_M, Dz.Sg.del_n, Dz.Sg.del_pv, Dz.Mm.put_same, Dz.Mm.put_put, Dz.Sg.put_put, Dz.Mm.put_ne, Dz.Mm.del_ne, Dz.rIsi, Dz.tyN, Dz.tyNames, Dz.isiT, Dz.subT, Dz.tyOk, Dz.tyNames, Dz.pyOf, Dz.toPy, Dz.toPys, Dz.Sg.put_mk, Dz.Sg.del_mk, Dz.spend_M, Dz.spend_pv, Dz.spend_n, Dz.spend_spend, Dz.spend_put, Dz.spend_del, Dz.spNext_iff, Dz.asI_lst, Dz.asI_tup, Dz.dFJ, Dz.dJs, Dz.dFmt, Dz.Tr.isNil, Gz.gPlain, Gz.gSeq, Gz.gNx, Gz.gIf, Gz.gYield, Gz.gOut, Gz.gForG, Gz.dGCall, Gz.dListG, Gz.dForG, Gz.GE.at, Dz.dDGet, Dz.rDGet, Dz.dDGet2, Dz.dDIn, Dz.dDSet, Dz.rDSet, Dz.dDF, Dz.dDM, Dz.dD0, Dz.dDc, Dz.rTupU, Dz.dStar, Dz.keyD, Dz.asD, Dz.dExtend, Dz.rExtendD, Dz.dFld, Dz.dSetFld, Dz.dMeth, Dz.dMake, Dz.dDictP, Dz.dDd, Dz.dPairs, Dz.dTab, Dz.dAugS, Dz.dNever, Dz.dIndex, Dz.dIndexT, List.map_cons, List.map_nil, List.length_cons, List.length_nil, List.length_map, List.length_set, List.replicate, Nat.reduceSub, Nat.reduceAdd, List.cons_append, List.nil_append, List.getElem?_cons_zero, List.getElem?_cons_succ, List.set_cons_zero, List.set_cons_succ, if_true, if_false, Bool.false_eq_true, id, Nat.sub_zero, Bool.not_true, Bool.not_false, true_and, and_true, ne_eq, not_false_eq_true, not_true_eq_false, reduceCtorEq, Option.map_some, Option.bind_some, String.reduceBEq, Bool.or_false, Bool.or_true, Bool.false_or, Bool.true_or, Bool.and_true, Bool.and_false, Bool.true_and, Bool.false_and, decide_true, decide_false, List.all_cons, List.all_nil, List.any_cons, List.any_nil, beq_self_eq_true]
        have k1 : decide (0 < cnD (szN x)) = true → decide (cnD (szN x) < 13) = tr12 x := by
          unfold tr12
          cases hz : szN x with
          | none => intro h; exact absurd h (by decide)
          | some j =>
            intro h
            have h' : (0 : Int) < (j : Int) := of_decide_eq_true h
            apply decide_eq_decide.mpr
            show (j : Int) < 13 ↔ _
            omega
        have k2 : decide (0 < cnD (szN x)) = false → tr12 x = false := by
          unfold tr12
          cases hz : szN x with
          | none => intro _; rfl
          | some j =>
            intro h
            have h' : ¬ (0 : Int) < (j : Int) := by rw [decide_eq_false_iff_not] at h; exact h
            show decide _ = false
            rw [decide_eq_false_iff_not]; omega
        cases hq : decide (0 < cnD (szN x)) with
        | true =>
          rw [k1 hq]
          dsimp only
          refine ⟨x, 30, rfl, vx, x, 30, rfl, vx, by decide, by decide, ⟨.lst [.bl (tr12 x), .bl (tr12 x)], 1, rfl, ⟨by decide, by simp, trivial, trivial, trivial⟩, by decide, by decide, ?_⟩⟩
          simp only [Dz.dSeq, Dz.dIf, Dz.dB, Dz.dOp, Dz.dUn, Dz.dVar, Dz.dC, Dz.dRet, Dz.dRetN, Dz.dNx, Dz.dBrk, Dz.dCnt, Dz.dAsg, Dz.dSet, Dz.dPar, Dz.dPar3, Dz.dgT, Dz.dgTt, Dz.dgCons, Dz.dgNil, Dz.dgN, Dz.dCall, Dz.dCons, Dz.dNil, Dz.dTup, Dz.dCB, Dz.dCN, Dz.dF, Dz.dM, Dz.dSz, Dz.dExpr, Dz.dNot, Dz.dAnd, Dz.dOr, Dz.dAndV, Dz.dOrV, Dz.dNotV, Dz.dIfE, Dz.dChain, Dz.dFrz, Dz.dIt, Dz.dRng1, Dz.dRng2, Dz.dSl, Dz.dNoPart, Dz.dPart, Dz.dCat, Dz.dRep, Dz.dLc, Dz.dFor, Dz.dAppend, Dz.dPop, Dz.dPopAt, Dz.rPopAtD, Dz.dSetIx, Dz.dYes, Dz.dRev, Dz.asI, Dz.asQ, Dz.asL, Dz.rIsN, Dz.rIs, Dz.rIsNot, Dz.isNon_d, Dz.isNon_non, Dz.isNon_tup, Dz.isNon_lst, Dz.isNon_str, Dz.isNon_int, Dz.isNon_bl, Dz.isNon_ref, Dz.isNon_dic, Dz.isNon_ty, Dz.rAddU, Dz.rSub, Dz.rMod, Dz.rDiv, Dz.rPow, Dz.rLt, Dz.rLe, Dz.rGt, Dz.rGe, Dz.rEq, Dz.rNe, Dz.rEqv, Dz.rInt2, Dz.rMax2, Dz.rMin2, Dz.rI, Dz.rCmp, Dz.rIxU, Dz.rAbs, Dz.rToInt, Dz.rListU, Dz.rSlU, Dz.trk, Dz.rLenU, Dz.rMulU, Dz.rNeg, Dz.startD, Dz.wipeD, Dz.Tr.d, Dz.Sg.put_M, Dz.Sg.put_n, Dz.Sg.put_pv, Dz.Sg.del_M, Dz.Sg.del_n, Dz.Sg.del_pv, Dz.Mm.put_same, Dz.Mm.put_put, Dz.Sg.put_put, Dz.Mm.put_ne, Dz.Mm.del_ne, Dz.rIsi, Dz.tyN, Dz.tyNames, Dz.isiT, Dz.subT, Dz.tyOk, Dz.tyNames, Dz.pyOf, Dz.toPy, Dz.toPys, Dz.Sg.put_mk, Dz.Sg.del_mk, Dz.spend_M, Dz.spend_pv, Dz.spend_n, Dz.spend_spend, Dz.spend_put, Dz.spend_del, Dz.spNext_iff, Dz.asI_lst, Dz.asI_tup, Dz.dFJ, Dz.dJs, Dz.dFmt, Dz.Tr.isNil, Gz.gPlain, Gz.gSeq, Gz.gNx, Gz.gIf, Gz.gYield, Gz.gOut, Gz.gForG, Gz.dGCall, Gz.dListG, Gz.dForG, Gz.GE.at, Dz.dDGet, Dz.rDGet, Dz.dDGet2, Dz.dDIn, Dz.dDSet, Dz.rDSet, Dz.dDF, Dz.dDM, Dz.dD0, Dz.dDc, Dz.rTupU, Dz.dStar, Dz.keyD, Dz.asD, Dz.dExtend, Dz.rExtendD, Dz.dFld, Dz.dSetFld, Dz.dMeth, Dz.dMake, Dz.dDictP, Dz.dDd, Dz.dPairs, Dz.dTab, Dz.dAugS, Dz.dNever, Dz.dIndex, Dz.dIndexT, List.map_cons, List.map_nil, List.length_cons, List.length_nil, List.length_map, List.length_set, List.replicate, Nat.reduceSub, Nat.reduceAdd, List.cons_append, List.nil_append, List.getElem?_cons_zero, List.getElem?_cons_succ, List.set_cons_zero, List.set_cons_succ, if_true, if_false, Bool.false_eq_true, id, Nat.sub_zero, Bool.not_true, Bool.not_false, true_and, and_true, ne_eq, not_false_eq_true, not_true_eq_false, reduceCtorEq, Option.map_some, Option.bind_some, String.reduceBEq, Bool.or_false, Bool.or_true, Bool.false_or, Bool.true_or, Bool.and_true, Bool.and_false, Bool.true_and, Bool.false_and, decide_true, decide_false, List.all_cons, List.all_nil, List.any_cons, List.any_nil, beq_self_eq_true]
          refine rReprX_of vx.1 (by decide) (by have := vx.2.2; omega) ?_
          simp only [Dz.dSeq, Dz.dIf, Dz.dB, Dz.dOp, Dz.dUn, Dz.dVar, Dz.dC, Dz.dRet, Dz.dRetN, Dz.dNx, Dz.dBrk, Dz.dCnt, Dz.dAsg, Dz.dSet, Dz.dPar, Dz.dPar3, Dz.dgT, Dz.dgTt, Dz.dgCons, Dz.dgNil, Dz.dgN, Dz.dCall, Dz.dCons, Dz.dNil, Dz.dTup, Dz.dCB, Dz.dCN, Dz.dF, Dz.dM, Dz.dSz, Dz.dExpr, Dz.dNot, Dz.dAnd, Dz.dOr, Dz.dAndV, Dz.dOrV, Dz.dNotV, Dz.dIfE, Dz.dChain, Dz.dFrz, Dz.dIt, Dz.dRng1, Dz.dRng2, Dz.dSl, Dz.dNoPart, Dz.dPart, Dz.dCat, Dz.dRep, Dz.dLc, Dz.dFor, Dz.dAppend, Dz.dPop, Dz.dPopAt, Dz.rPopAtD, Dz.dSetIx, Dz.dYes, Dz.dRev, Dz.asI, Dz.asQ, Dz.asL, Dz.rIsN, Dz.rIs, Dz.rIsNot, Dz.isNon_d, Dz.isNon_non, Dz.isNon_tup, Dz.isNon_lst, Dz.isNon_str, Dz.isNon_int, Dz.isNon_bl, Dz.isNon_ref, Dz.isNon_dic, Dz.isNon_ty, Dz.rAddU, Dz.rSub, Dz.rMod, Dz.rDiv, Dz.rPow, Dz.rLt, Dz.rLe, Dz.rGt, Dz.rGe, Dz.rEq, Dz.rNe, Dz.rEqv, Dz.rInt2, Dz.rMax2, Dz.rMin2, Dz.rI, Dz.rCmp, Dz.rIxU, Dz.rAbs, Dz.rToInt, Dz.rListU, Dz.rSlU, Dz.trk, Dz.rLenU, Dz.rMulU, Dz.rNeg, Dz.startD, Dz.wipeD, Dz.Tr.d, Dz.Sg.put_M, Dz.Sg.put_n, Dz.Sg.put_pv, Dz.Sg.del_M, Dz.Sg.del_n, Dz.Sg.del_pv, Dz.Mm.put_same, Dz.Mm.put_put, Dz.Sg.put_put, Dz.Mm.put_ne, Dz.Mm.del_ne, Dz.rIsi, Dz.tyN, Dz.tyNames, Dz.isiT, Dz.subT, Dz.tyOk, Dz.tyNames, Dz.pyOf, Dz.toPy, Dz.toPys, Dz.Sg.put_mk, Dz.Sg.del_mk, Dz.spend_M, Dz.spend_pv, Dz.spend_n, Dz.spend_spend, Dz.spend_put, Dz.spend_del, Dz.spNext_iff, Dz.asI_lst, Dz.asI_tup, Dz.dFJ, Dz.dJs, Dz.dFmt, Dz.Tr.isNil, Gz.gPlain, Gz.gSeq, Gz.gNx, Gz.gIf, Gz.gYield, Gz.gOut, Gz.gForG, Gz.dGCall, Gz.dListG, Gz.dForG, Gz.GE.at, Dz.dDGet, Dz.rDGet, Dz.dDGet2, Dz.dDIn, Dz.dDSet, Dz.rDSet, Dz.dDF, Dz.dDM, Dz.dD0, Dz.dDc, Dz.rTupU, Dz.dStar, Dz.keyD, Dz.asD, Dz.dExtend, Dz.rExtendD, Dz.dFld, Dz.dSetFld, Dz.dMeth, Dz.dMake, Dz.dDictP, Dz.dDd, Dz.dPairs, Dz.dTab, Dz.dAugS, Dz.dNever, Dz.dIndex, Dz.dIndexT, List.map_cons, List.map_nil, List.length_cons, List.length_nil, List.length_map, List.length_set, List.replicate, Nat.reduceSub, Nat.reduceAdd, List.cons_append, List.nil_append, List.getElem?_cons_zero, List.getElem?_cons_succ, List.set_cons_zero, List.set_cons_succ, if_true, if_false, Bool.false_eq_true, id, Nat.sub_zero, Bool.not_true, Bool.not_false, true_and, and_true, ne_eq, not_false_eq_true, not_true_eq_false, reduceCtorEq, Option.map_some, Option.bind_some, String.reduceBEq, Bool.or_false, Bool.or_true, Bool.false_or, Bool.true_or, Bool.and_true, Bool.and_false, Bool.true_and, Bool.false_and, decide_true, decide_false, List.all_cons, List.all_nil, List.any_cons, List.any_nil, beq_self_eq_true]
          exact hN _ _ ⟨_, _, _, rfl, rfl, fun w hw => hx w (List.mem_cons_of_mem _ hw)⟩
        | false =>
          dsimp only
          refine ⟨x, 30, rfl, vx, x, 30, rfl, vx, by decide, by decide, ⟨.lst [.bl false, .bl false], 1, by rw [k2 hq], ⟨by decide, by simp, trivial, trivial, trivial⟩, by decide, by decide, ?_⟩⟩
          simp only [Dz.dSeq, Dz.dIf, Dz.dB, Dz.dOp, Dz.dUn, Dz.dVar, Dz.dC, Dz.dRet, Dz.dRetN, Dz.dNx, Dz.dBrk, Dz.dCnt, Dz.dAsg, Dz.dSet, Dz.dPar, Dz.dPar3, Dz.dgT, Dz.dgTt, Dz.dgCons, Dz.dgNil, Dz.dgN, Dz.dCall, Dz.dCons, Dz.dNil, Dz.dTup, Dz.dCB, Dz.dCN, Dz.dF, Dz.dM, Dz.dSz, Dz.dExpr, Dz.dNot, Dz.dAnd, Dz.dOr, Dz.dAndV, Dz.dOrV, Dz.dNotV, Dz.dIfE, Dz.dChain, Dz.dFrz, Dz.dIt, Dz.dRng1, Dz.dRng2, Dz.dSl, Dz.dNoPart, Dz.dPart, Dz.dCat, Dz.dRep, Dz.dLc, Dz.dFor, Dz.dAppend, Dz.dPop, Dz.dPopAt, Dz.rPopAtD, Dz.dSetIx, Dz.dYes, Dz.dRev, Dz.asI, Dz.asQ, Dz.asL, Dz.rIsN, Dz.rIs, Dz.rIsNot, Dz.isNon_d, Dz.isNon_non, Dz.isNon_tup, Dz.isNon_lst, Dz.isNon_str, Dz.isNon_int, Dz.isNon_bl, Dz.isNon_ref, Dz.isNon_dic, Dz.isNon_ty, Dz.rAddU, Dz.rSub, Dz.rMod, Dz.rDiv, Dz.rPow, Dz.rLt, Dz.rLe, Dz.rGt, Dz.rGe, Dz.rEq, Dz.rNe, Dz.rEqv, Dz.rInt2, Dz.rMax2, Dz.rMin2, Dz.rI, Dz.rCmp, Dz.rIxU, Dz.rAbs, Dz.rToInt, Dz.rListU, Dz.rSlU, Dz.trk, Dz.rLenU, Dz.rMulU, Dz.rNeg, Dz.startD, Dz.wipeD, Dz.Tr.d, Dz.Sg.put_M, Dz.Sg.put_n, Dz.Sg.put_pv, Dz.Sg.del_M, Dz.Sg.del_n, Dz.Sg.del_pv, Dz.Mm.put_same, Dz.Mm.put_put, Dz.Sg.put_put, Dz.Mm.put_ne, Dz.Mm.del_ne, Dz.rIsi, Dz.tyN, Dz.tyNames, Dz.isiT, Dz.subT, Dz.tyOk, Dz.tyNames, Dz.pyOf, Dz.toPy, Dz.toPys, Dz.Sg.put_mk, Dz.Sg.del_mk, Dz.spend_M, Dz.spend_pv, Dz.spend_n, Dz.spend_spend, Dz.spend_put, Dz.spend_del, Dz.spNext_iff, Dz.asI_lst, Dz.asI_tup, Dz.dFJ, Dz.dJs, Dz.dFmt, Dz.Tr.isNil, Gz.gPlain, Gz.gSeq, Gz.gNx, Gz.gIf, Gz.gYield, Gz.gOut, Gz.gForG, Gz.dGCall, Gz.dListG, Gz.dForG, Gz.GE.at, Dz.dDGet, Dz.rDGet, Dz.dDGet2, Dz.dDIn, Dz.dDSet, Dz.rDSet, Dz.dDF, Dz.dDM, Dz.dD0, Dz.dDc, Dz.rTupU, Dz.dStar, Dz.keyD, Dz.asD, Dz.dExtend, Dz.rExtendD, Dz.dFld, Dz.dSetFld, Dz.dMeth, Dz.dMake, Dz.dDictP, Dz.dDd, Dz.dPairs, Dz.dTab, Dz.dAugS, Dz.dNever, Dz.dIndex, Dz.dIndexT, List.map_cons, List.map_nil, List.length_cons, List.length_nil, List.length_map, List.length_set, List.replicate, Nat.reduceSub, Nat.reduceAdd, List.cons_append, List.nil_append, List.getElem?_cons_zero, List.getElem?_cons_succ, List.set_cons_zero, List.set_cons_succ, if_true, if_false, Bool.false_eq_true, id, Nat.sub_zero, Bool.not_true, Bool.not_false, true_and, and_true, ne_eq, not_false_eq_true, not_true_eq_false, reduceCtorEq, Option.map_some, Option.bind_some, String.reduceBEq, Bool.or_false, Bool.or_true, Bool.false_or, Bool.true_or, Bool.and_true, Bool.and_false, Bool.true_and, Bool.false_and, decide_true, decide_false, List.all_cons, List.all_nil, List.any_cons, List.any_nil, beq_self_eq_true]
          refine rReprX_of vx.1 (by decide) (by have := vx.2.2; omega) ?_
          simp only [Dz.dSeq, Dz.dIf, Dz.dB, Dz.dOp, Dz.dUn, Dz.dVar, Dz.dC, Dz.dRet, Dz.dRetN, Dz.dNx, Dz.dBrk, Dz.dCnt, Dz.dAsg, Dz.dSet, Dz.dPar, Dz.dPar3, Dz.dgT, Dz.dgTt, Dz.dgCons, Dz.dgNil, Dz.dgN, Dz.dCall, Dz.dCons, Dz.dNil, Dz.dTup, Dz.dCB, Dz.dCN, Dz.dF, Dz.dM, Dz.dSz, Dz.dExpr, Dz.dNot, Dz.dAnd, Dz.dOr, Dz.dAndV, Dz.dOrV, Dz.dNotV, Dz.dIfE, Dz.dChain, Dz.dFrz, Dz.dIt, Dz.dRng1, Dz.dRng2, Dz.dSl, Dz.dNoPart, Dz.dPart, Dz.dCat, Dz.dRep, Dz.dLc, Dz.dFor, Dz.dAppend, Dz.dPop, Dz.dPopAt, Dz.rPopAtD, Dz.dSetIx, Dz.dYes, Dz.dRev, Dz.asI, Dz.asQ, Dz.asL, Dz.rIsN, Dz.rIs, Dz.rIsNot, Dz.isNon_d, Dz.isNon_non, Dz.isNon_tup, Dz.isNon_lst, Dz.isNon_str, Dz.isNon_int, Dz.isNon_bl, Dz.isNon_ref, Dz.isNon_dic, Dz.isNon_ty, Dz.rAddU, Dz.rSub, Dz.rMod, Dz.rDiv, Dz.rPow, Dz.rLt, Dz.rLe, Dz.rGt, Dz.rGe, Dz.rEq, Dz.rNe, Dz.rEqv, Dz.rInt2, Dz.rMax2, Dz.rMin2, Dz.rI, Dz.rCmp, Dz.rIxU, Dz.rAbs, Dz.rToInt, Dz.rListU, Dz.rSlU, Dz.trk, Dz.rLenU, Dz.rMulU, Dz.rNeg, Dz.startD, Dz.wipeD, Dz.Tr.d, Dz.Sg.put_M, Dz.Sg.put_n, Dz.Sg.put_pv, Dz.Sg.del_M, Dz.Sg.del_n, Dz.Sg.del_pv, Dz.Mm.put_same, Dz.Mm.put_put, Dz.Sg.put_put, Dz.Mm.put_ne, Dz.Mm.del_ne, Dz.rIsi, Dz.tyN, Dz.tyNames, Dz.isiT, Dz.subT, Dz.tyOk, Dz.tyNames, Dz.pyOf, Dz.toPy, Dz.toPys, Dz.Sg.put_mk, Dz.Sg.del_mk, Dz.spend_M, Dz.spend_pv, Dz.spend_n, Dz.spend_spend, Dz.spend_put, Dz.spend_del, Dz.spNext_iff, Dz.asI_lst, Dz.asI_tup, Dz.dFJ, Dz.dJs, Dz.dFmt, Dz.Tr.isNil, Gz.gPlain, Gz.gSeq, Gz.gNx, Gz.gIf, Gz.gYield, Gz.gOut, Gz.gForG, Gz.dGCall, Gz.dListG, Gz.dForG, Gz.GE.at, Dz.dDGet, Dz.rDGet, Dz.dDGet2, Dz.dDIn, Dz.dDSet, Dz.rDSet, Dz.dDF, Dz.dDM, Dz.dD0, Dz.dDc, Dz.rTupU, Dz.dStar, Dz.keyD, Dz.asD, Dz.dExtend, Dz.rExtendD, Dz.dFld, Dz.dSetFld, Dz.dMeth, Dz.dMake, Dz.dDictP, Dz.dDd, Dz.dPairs, Dz.dTab, Dz.dAugS, Dz.dNever, Dz.dIndex, Dz.dIndexT, List.map_cons, List.map_nil, List.length_cons, List.length_nil, List.length_map, List.length_set, List.replicate, Nat.reduceSub, Nat.reduceAdd, List.cons_append, List.nil_append, List.getElem?_cons_zero, List.getElem?_cons_succ, List.set_cons_zero, List.set_cons_succ, if_true, if_false, Bool.false_eq_true, id, Nat.sub_zero, Bool.not_true, Bool.not_false, true_and, and_true, ne_eq, not_false_eq_true, not_true_eq_false, reduceCtorEq, Option.map_some, Option.bind_some, String.reduceBEq, Bool.or_false, Bool.or_true, Bool.false_or, Bool.true_or, Bool.and_true, Bool.and_false, Bool.true_and, Bool.false_and, decide_true, decide_false, List.all_cons, List.all_nil, List.any_cons, List.any_nil, beq_self_eq_true]
          exact hN _ _ ⟨_, _, _, rfl, rfl, fun w hw => hx w (List.mem_cons_of_mem _ hw)⟩
    · rintro x r env s2 N ⟨e2, e3, vs, e5, e6, e7, e8, rfl, hp2, hn2, hv2, hl2⟩ hN
      rw [List.length_cons] at hn2 hl2
      simp only [Dz.dSeq, Dz.dIf, Dz.dB, Dz.dOp, Dz.dUn, Dz.dVar, Dz.dC, Dz.dRet, Dz.dRetN, Dz.dNx, Dz.dBrk, Dz.dCnt, Dz.dAsg, Dz.dSet, Dz.dPar, Dz.dPar3, Dz.dgT, Dz.dgTt, Dz.dgCons, Dz.dgNil, Dz.dgN, Dz.dCall, Dz.dCons, Dz.dNil, Dz.dTup, Dz.dCB, Dz.dCN, Dz.dF, Dz.dM, Dz.dSz, Dz.dExpr, Dz.dNot, Dz.dAnd, Dz.dOr, Dz.dAndV, Dz.dOrV, Dz.dNotV, Dz.dIfE, Dz.dChain, Dz.dFrz, Dz.dIt, Dz.dRng1, Dz.dRng2, Dz.dSl, Dz.dNoPart, Dz.dPart, Dz.dCat, Dz.dRep, Dz.dLc, Dz.dFor, Dz.dAppend, Dz.dPop, Dz.dPopAt, Dz.rPopAtD, Dz.dSetIx, Dz.dYes, Dz.dRev, Dz.asI, Dz.asQ, Dz.asL, Dz.rIsN, Dz.rIs, Dz.rIsNot, Dz.isNon_d, Dz.isNon_non, Dz.isNon_tup, Dz.isNon_lst, Dz.isNon_str, Dz.isNon_int, Dz.isNon_bl, Dz.isNon_ref, Dz.isNon_dic, Dz.isNon_ty, Dz.rAddU, Dz.rSub, Dz.rMod, Dz.rDiv, Dz.rPow, Dz.rLt, Dz.rLe, Dz.rGt, Dz.rGe, Dz.rEq, Dz.rNe, Dz.rEqv, Dz.rInt2, Dz.rMax2, Dz.rMin2, Dz.rI, Dz.rCmp, Dz.rIxU, Dz.rAbs, Dz.rToInt, Dz.rListU, Dz.rSlU, Dz.trk, Dz.rLenU, Dz.rMulU, Dz.rNeg, Dz.startD, Dz.wipeD, Dz.Tr.d, Dz.Sg.put_M, Dz.Sg.put_n, Dz.Sg.put_pv, Dz.Sg.del_M, Dz.Sg.del_n, Dz.Sg.del_pv, Dz.Mm.put_same, Dz.Mm.put_put, Dz.Sg.put_put, Dz.Mm.put_ne, Dz.Mm.del_ne, Dz.rIsi, Dz.tyN, Dz.tyNames, Dz.isiT, Dz.subT, Dz.tyOk, Dz.tyNames, Dz.pyOf, Dz.toPy, Dz.toPys, Dz.Sg.put_mk, Dz.Sg.del_mk, Dz.spend_M, Dz.spend_pv, Dz.spend_n, Dz.spend_spend, Dz.spend_put, Dz.spend_del, Dz.spNext_iff, Dz.asI_lst, Dz.asI_tup, Dz.dFJ, Dz.dJs, Dz.dFmt, Dz.Tr.isNil, Gz.gPlain, Gz.gSeq, Gz.gNx, Gz.gIf, Gz.gYield, Gz.gOut, Gz.gForG, Gz.dGCall, Gz.dListG, Gz.dForG, Gz.GE.at, Dz.dDGet, Dz.rDGet, Dz.dDGet2, Dz.dDIn, Dz.dDSet, Dz.rDSet, Dz.dDF, Dz.dDM, Dz.dD0, Dz.dDc, Dz.rTupU, Dz.dStar, Dz.keyD, Dz.asD, Dz.dExtend, Dz.rExtendD, Dz.dFld, Dz.dSetFld, Dz.dMeth, Dz.dMake, Dz.dDictP, Dz.dDd, Dz.dPairs, Dz.dTab, Dz.dAugS, Dz.dNever, Dz.dIndex, Dz.dIndexT, List.map_cons, List.map_nil, List.length_cons, List.length_nil, List.length_map, List.length_set, List.replicate, Nat.reduceSub, Nat.reduceAdd, List.cons_append, List.nil_append, List.getElem?_cons_zero, List.getElem?_cons_succ, List.set_cons_zero, List.set_cons_succ, if_true, if_false, Bool.false_eq_true, id, Nat.sub_zero, Bool.not_true, Bool.not_false, true_and, and_true, ne_eq, not_false_eq_true, not_true_eq_false, reduceCtorEq, Option.map_some, Option.bind_some, String.reduceBEq, Bool.or_false, Bool.or_true, Bool.false_or, Bool.true_or, Bool.and_true, Bool.and_false, Bool.true_and, Bool.false_and, decide_true, decide_false, List.all_cons, List.all_nil, List.any_cons, List.any_nil, beq_self_eq_true]
      refine ⟨p, rfl, hp2, by omega, fun t h0 h1 ha => ?_⟩
      have hd := t.depth_le
      have hc : t.all (· < 1114112) := Tr.all_mono (fun c hc => by unfold Lt at hc; omega) ha
      have gt : gx t.d 12 := gx_tr hc (by omega)
      have wt : wx t.d ≤ 48 := by rw [wx_tr]; omega
      simp only [Dz.dSeq, Dz.dIf, Dz.dB, Dz.dOp, Dz.dUn, Dz.dVar, Dz.dC, Dz.dRet, Dz.dRetN, Dz.dNx, Dz.dBrk, Dz.dCnt, Dz.dAsg, Dz.dSet, Dz.dPar, Dz.dPar3, Dz.dgT, Dz.dgTt, Dz.dgCons, Dz.dgNil, Dz.dgN, Dz.dCall, Dz.dCons, Dz.dNil, Dz.dTup, Dz.dCB, Dz.dCN, Dz.dF, Dz.dM, Dz.dSz, Dz.dExpr, Dz.dNot, Dz.dAnd, Dz.dOr, Dz.dAndV, Dz.dOrV, Dz.dNotV, Dz.dIfE, Dz.dChain, Dz.dFrz, Dz.dIt, Dz.dRng1, Dz.dRng2, Dz.dSl, Dz.dNoPart, Dz.dPart, Dz.dCat, Dz.dRep, Dz.dLc, Dz.dFor, Dz.dAppend, Dz.dPop, Dz.dPopAt, Dz.rPopAtD, Dz.dSetIx, Dz.dYes, Dz.dRev, Dz.asI, Dz.asQ, Dz.asL, Dz.rIsN, Dz.rIs, Dz.rIsNot, Dz.isNon_d, Dz.isNon_non, Dz.isNon_tup, Dz.isNon_lst, Dz.isNon_str, Dz.isNon_int, Dz.isNon_bl, Dz.isNon_ref, Dz.isNon_dic, Dz.isNon_ty, Dz.rAddU, Dz.rSub, Dz.rMod, Dz.rDiv, Dz.rPow, Dz.rLt, Dz.rLe, Dz.rGt, Dz.rGe, Dz.rEq, Dz.rNe, Dz.rEqv, Dz.rInt2, Dz.rMax2, Dz.rMin2, Dz.rI, Dz.rCmp, Dz.rIxU, Dz.rAbs, Dz.rToInt, Dz.rListU, Dz.rSlU, Dz.trk, Dz.rLenU, Dz.rMulU, Dz.rNeg, Dz.startD, Dz.wipeD, Dz.Tr.d, Dz.Sg.put_M, Dz.Sg.put_n, Dz.Sg.put_pv, Dz.Sg.del_M, Dz.Sg.del_n, Dz.Sg.del_pv, Dz.Mm.put_same, Dz.Mm.put_put, Dz.Sg.put_put, Dz.Mm.put_ne, Dz.Mm.del_ne, Dz.rIsi, Dz.tyN, Dz.tyNames, Dz.isiT, Dz.subT, Dz.tyOk, Dz.tyNames, Dz.pyOf, Dz.toPy, Dz.toPys, Dz.Sg.put_mk, Dz.Sg.del_mk, Dz.spend_M, Dz.spend_pv, Dz.spend_n, Dz.spend_spend, Dz.spend_put, Dz.spend_del, Dz.spNext_iff, Dz.asI_lst, Dz.asI_tup, Dz.dFJ, Dz.dJs, Dz.dFmt, Dz.Tr.isNil, Gz.gPlain, Gz.gSeq, Gz.gNx, Gz.gIf, Gz.gYield, Gz.gOut, Gz.gForG, Gz.dGCall, Gz.dListG, Gz.dForG, Gz.GE.at, Dz.dDGet, Dz.rDGet, Dz.dDGet2, Dz.dDIn, Dz.dDSet, Dz.rDSet, Dz.dDF, Dz.dDM, Dz.dD0, Dz.dDc, Dz.rTupU, Dz.dStar, Dz.keyD, Dz.asD, Dz.dExtend, Dz.rExtendD, Dz.dFld, Dz.dSetFld, Dz.dMeth, Dz.dMake, Dz.dDictP, Dz.dDd, Dz.dPairs, Dz.dTab, Dz.dAugS, Dz.dNever, Dz.dIndex, Dz.dIndexT, List.map_cons, List.map_nil, List.length_cons, List.length_nil, List.length_map, List.length_set, List.replicate, Nat.reduceSub, Nat.reduceAdd, List.cons_append, List.nil_append, List.getElem?_cons_zero, List.getElem?_cons_succ, List.set_cons_zero, List.set_cons_succ, if_true, if_false, Bool.false_eq_true, id, Nat.sub_zero, Bool.not_true, Bool.not_false, true_and, and_true, ne_eq, not_false_eq_true, not_true_eq_false, reduceCtorEq, Option.map_some, Option.bind_some, String.reduceBEq, Bool.or_false, Bool.or_true, Bool.false_or, Bool.true_or, Bool.and_true, Bool.and_false, Bool.true_and, Bool.false_and, decide_true, decide_false, List.all_cons, List.all_nil, List.any_cons, List.any_nil, beq_self_eq_true]
      refine ⟨p, t.d, 12, rfl, hp2, gt, by decide, by omega, by rw [spend_n]; omega, fun w1 g1 v1 => ?_⟩
      refine ⟨p, w1, 14, rfl, hp2, g1, by decide, by omega, by simp only [spend_n]; omega, fun w2 g2 v2 => ?_⟩
      refine ⟨p, t.d, 12, rfl, hp2, gt, by decide, by omega, by simp only [spend_n]; omega, fun w3 g3 v3 => ?_⟩
      cases t with
      | nil => cases h0
      | node tl tc tr =>
        have gl : gx (.lst [tl.d, chr tc, tr.d]) 12 := gt
        have wl : wx (.lst [tl.d, chr tc, tr.d]) ≤ 48 := wt
        simp only [Dz.dSeq, Dz.dIf, Dz.dB, Dz.dOp, Dz.dUn, Dz.dVar, Dz.dC, Dz.dRet, Dz.dRetN, Dz.dNx, Dz.dBrk, Dz.dCnt, Dz.dAsg, Dz.dSet, Dz.dPar, Dz.dPar3, Dz.dgT, Dz.dgTt, Dz.dgCons, Dz.dgNil, Dz.dgN, Dz.dCall, Dz.dCons, Dz.dNil, Dz.dTup, Dz.dCB, Dz.dCN, Dz.dF, Dz.dM, Dz.dSz, Dz.dExpr, Dz.dNot, Dz.dAnd, Dz.dOr, Dz.dAndV, Dz.dOrV, Dz.dNotV, Dz.dIfE, Dz.dChain, Dz.dFrz, Dz.dIt, Dz.dRng1, Dz.dRng2, Dz.dSl, Dz.dNoPart, Dz.dPart, Dz.dCat, Dz.dRep, Dz.dLc, Dz.dFor, Dz.dAppend, Dz.dPop, Dz.dPopAt, Dz.rPopAtD, Dz.dSetIx, Dz.dYes, Dz.dRev, Dz.asI, Dz.asQ, Dz.asL, Dz.rIsN, Dz.rIs, Dz.rIsNot, Dz.isNon_d, Dz.isNon_non, Dz.isNon_tup, Dz.isNon_lst, Dz.isNon_str, Dz.isNon_int, Dz.isNon_bl, Dz.isNon_ref, Dz.isNon_dic, Dz.isNon_ty, Dz.rAddU, Dz.rSub, Dz.rMod, Dz.rDiv, Dz.rPow, Dz.rLt, Dz.rLe, Dz.rGt, Dz.rGe, Dz.rEq, Dz.rNe, Dz.rEqv, Dz.rInt2, Dz.rMax2, Dz.rMin2, Dz.rI, Dz.rCmp, Dz.rIxU, Dz.rAbs, Dz.rToInt, Dz.rListU, Dz.rSlU, Dz.trk, Dz.rLenU, Dz.rMulU, Dz.rNeg, Dz.startD, Dz.wipeD, Dz.Tr.d, Dz.Sg.put_M, Dz.Sg.put_n, Dz.Sg.put_pv, Dz.Sg.del_M, Dz.Sg.del_n, Dz.Sg.del_pv, Dz.Mm.put_same, Dz.Mm.put_put, Dz.Sg.put_put, Dz.Mm.put_ne, Dz.Mm.del_ne, Dz.rIsi, Dz.tyN, Dz.tyNames, Dz.isiT, Dz.subT, Dz.tyOk, Dz.tyNames, Dz.pyOf, Dz.toPy, Dz.toPys, Dz.Sg.put_mk, Dz.Sg.del_mk, Dz.spend_M, Dz.spend_pv, Dz.spend_n, Dz.spend_spend, Dz.spend_put, Dz.spend_del, Dz.spNext_iff, Dz.asI_lst, Dz.asI_tup, Dz.dFJ, Dz.dJs, Dz.dFmt, Dz.Tr.isNil, Gz.gPlain, Gz.gSeq, Gz.gNx, Gz.gIf, Gz.gYield, Gz.gOut, Gz.gForG, Gz.dGCall, Gz.dListG, Gz.dForG, Gz.GE.at, Dz.dDGet, Dz.rDGet, Dz.dDGet2, Dz.dDIn, Dz.dDSet, Dz.rDSet, Dz.dDF, Dz.dDM, Dz.dD0, Dz.dDc, Dz.rTupU, Dz.dStar, Dz.keyD, Dz.asD, Dz.dExtend, Dz.rExtendD, Dz.dFld, Dz.dSetFld, Dz.dMeth, Dz.dMake, Dz.dDictP, Dz.dDd, Dz.dPairs, Dz.dTab, Dz.dAugS, Dz.dNever, Dz.dIndex, Dz.dIndexT, List.map_cons, List.map_nil, List.length_cons, List.length_nil, List.length_map, List.length_set, List.replicate, Nat.reduceSub, Nat.reduceAdd, List.cons_append, List.nil_append, List.getElem?_cons_zero, List.getElem?_cons_succ, List.set_cons_zero, List.set_cons_succ, if_true, if_false, Bool.false_eq_true, id, Nat.sub_zero, Bool.not_true, Bool.not_false, true_and, and_true, ne_eq, not_false_eq_true, not_true_eq_false, reduceCtorEq, Option.map_some, Option.bind_some, String.reduceBEq, Bool.or_false, Bool.or_true, Bool.false_or, Bool.true_or, Bool.and_true, Bool.and_false, Bool.true_and, Bool.false_and, decide_true, decide_false, List.all_cons, List.all_nil, List.any_cons, List.any_nil, beq_self_eq_true]
        refine ⟨p, rfl, hp2, by simp only [spend_n]; omega, fun w4 g4 v4 => ?_⟩
        simp only [Dz.dSeq, Dz.dIf, Dz.dB, Dz.dOp, Dz.dUn, Dz.dVar, Dz.dC, Dz.dRet, Dz.dRetN, Dz.dNx, Dz.dBrk, Dz.dCnt, Dz.dAsg, Dz.dSet, Dz.dPar, Dz.dPar3, Dz.dgT, Dz.dgTt, Dz.dgCons, Dz.dgNil, Dz.dgN, Dz.dCall, Dz.dCons, Dz.dNil, Dz.dTup, Dz.dCB, Dz.dCN, Dz.dF, Dz.dM, Dz.dSz, Dz.dExpr, Dz.dNot, Dz.dAnd, Dz.dOr, Dz.dAndV, Dz.dOrV, Dz.dNotV, Dz.dIfE, Dz.dChain, Dz.dFrz, Dz.dIt, Dz.dRng1, Dz.dRng2, Dz.dSl, Dz.dNoPart, Dz.dPart, Dz.dCat, Dz.dRep, Dz.dLc, Dz.dFor, Dz.dAppend, Dz.dPop, Dz.dPopAt, Dz.rPopAtD, Dz.dSetIx, Dz.dYes, Dz.dRev, Dz.asI, Dz.asQ, Dz.asL, Dz.rIsN, Dz.rIs, Dz.rIsNot, Dz.isNon_d, Dz.isNon_non, Dz.isNon_tup, Dz.isNon_lst, Dz.isNon_str, Dz.isNon_int, Dz.isNon_bl, Dz.isNon_ref, Dz.isNon_dic, Dz.isNon_ty, Dz.rAddU, Dz.rSub, Dz.rMod, Dz.rDiv, Dz.rPow, Dz.rLt, Dz.rLe, Dz.rGt, Dz.rGe, Dz.rEq, Dz.rNe, Dz.rEqv, Dz.rInt2, Dz.rMax2, Dz.rMin2, Dz.rI, Dz.rCmp, Dz.rIxU, Dz.rAbs, Dz.rToInt, Dz.rListU, Dz.rSlU, Dz.trk, Dz.rLenU, Dz.rMulU, Dz.rNeg, Dz.startD, Dz.wipeD, Dz.Tr.d, Dz.Sg.put_M, Dz.Sg.put_n, Dz.Sg.put_pv, Dz.Sg.del_M, Dz.Sg.del_n, Dz.Sg.del_pv, Dz.Mm.put_same, Dz.Mm.put_put, Dz.Sg.put_put, Dz.Mm.put_ne, Dz.Mm.del_ne, Dz.rIsi, Dz.tyN, Dz.tyNames, Dz.isiT, Dz.subT, Dz.tyOk, Dz.tyNames, Dz.pyOf, Dz.toPy, Dz.toPys, Dz.Sg.put_mk, Dz.Sg.del_mk, Dz.spend_M, Dz.spend_pv, Dz.spend_n, Dz.spend_spend, Dz.spend_put, Dz.spend_del, Dz.spNext_iff, Dz.asI_lst, Dz.asI_tup, Dz.dFJ, Dz.dJs, Dz.dFmt, Dz.Tr.isNil, Gz.gPlain, Gz.gSeq, Gz.gNx, Gz.gIf, Gz.gYield, Gz.gOut, Gz.gForG, Gz.dGCall, Gz.dListG, Gz.dForG, Gz.GE.at, Dz.dDGet, Dz.rDGet, Dz.dDGet2, Dz.dDIn, Dz.dDSet, Dz.rDSet, Dz.dDF, Dz.dDM, Dz.dD0, Dz.dDc, Dz.rTupU, Dz.dStar, Dz.keyD, Dz.asD, Dz.dExtend, Dz.rExtendD, Dz.dFld, Dz.dSetFld, Dz.dMeth, Dz.dMake, Dz.dDictP, Dz.dDd, Dz.dPairs, Dz.dTab, Dz.dAugS, Dz.dNever, Dz.dIndex, Dz.dIndexT, List.map_cons, List.map_nil, List.length_cons, List.length_nil, List.length_map, List.length_set, List.replicate, Nat.reduceSub, Nat.reduceAdd, List.cons_append, List.nil_append, List.getElem?_cons_zero, List.getElem?_cons_succ, List.set_cons_zero, List.set_cons_succ, if_true, if_false, Bool.false_eq_true, id, Nat.sub_zero, Bool.not_true, Bool.not_false, true_and, and_true, ne_eq, not_false_eq_true, not_true_eq_false, reduceCtorEq, Option.map_some, Option.bind_some, String.reduceBEq, Bool.or_false, Bool.or_true, Bool.false_or, Bool.true_or, Bool.and_true, Bool.and_false, Bool.true_and, Bool.false_and, decide_true, decide_false, List.all_cons, List.all_nil, List.any_cons, List.any_nil, beq_self_eq_true]
        refine ⟨by decide, by omega, by decide, by decide, by decide, by decide, by decide, by rw [List.length_append]; simp; omega, hN _ _ ⟨_, _, _, _, _, _, _, rfl, hp2, by simp only [spend_n]; omega, ?_, by simp; omega⟩⟩
        have V : ∀ {w : D} {m : Nat}, gx w m → m ≤ 30 → wx w ≤ 10000 → Vv w := fun h1 h2 h3 => ⟨gx_mono _ _ _ h2 h1, by decide, h3⟩
        intro w hw
        rcases List.mem_append.mp hw with hw | hw
        · rcases List.mem_append.mp hw with hw | hw
          · exact hv2 w hw
          · simp only [List.mem_cons, List.not_mem_nil, or_false] at hw
            rcases hw with rfl | rfl | rfl | rfl | rfl | rfl
            · exact V gt (by decide) (by have : wx (Tr.node tl tc tr).d ≤ 48 := wt; simp only [Tr.d] at this; omega)
            · exact V g1 (by decide) (by omega)
            · exact V g2 (by decide) (by omega)
            · exact V g3 (by decide) (by omega)
            · exact V gl (by decide) (by omega)
            · exact V g4 (by decide) (by omega)
        · simp only [List.mem_cons, List.not_mem_nil, or_false] at hw
          have wt' : wx (.tup [tl.d, chr tc, tr.d]) ≤ 48 := wt
          have gt' : gx (.tup [tl.d, chr tc, tr.d]) 12 := gt
          rcases hw with rfl | rfl | rfl | rfl
          · exact V (m := 13) ⟨by decide, by simp, gt', sb, gt', trivial⟩ (by decide) (by show wx (.tup [tl.d, chr tc, tr.d]) + 1 + (1 + 1 + (wx (.tup [tl.d, chr tc, tr.d]) + 1 + 0)) ≤ 10000; omega)
          · exact V (m := 13) ⟨by decide, by simp, gt', sb, trivial, trivial⟩ (by decide) (by show wx (.tup [tl.d, chr tc, tr.d]) + 1 + (1 + 1 + (0 + 1 + 0)) ≤ 10000; omega)
          · exact V (m := 13) ⟨by decide, by simp, trivial, sB, gt', trivial⟩ (by decide) (by show 0 + 1 + (1 + 1 + (wx (.tup [tl.d, chr tc, tr.d]) + 1 + 0)) ≤ 10000; omega)
          · exact V (m := 13) ⟨by decide, by simp, trivial, sb, gl, trivial⟩ (by decide) (by show 0 + 1 + (1 + 1 + (wx (.lst [tl.d, chr tc, tr.d]) + 1 + 0)) ≤ 10000; omega)
  · rintro x r env s' N ⟨u, v, vs, e5, k, rfl, rfl, hk, gu, gv, wu, wv, hv, hl⟩ hN
    rw [List.length_cons] at hk hl
    simp only [Dz.dSeq, Dz.dIf, Dz.dB, Dz.dOp, Dz.dUn, Dz.dVar, Dz.dC, Dz.dRet, Dz.dRetN, Dz.dNx, Dz.dBrk, Dz.dCnt, Dz.dAsg, Dz.dSet, Dz.dPar, Dz.dPar3, Dz.dgT, Dz.dgTt, Dz.dgCons, Dz.dgNil, Dz.dgN, Dz.dCall, Dz.dCons, Dz.dNil, Dz.dTup, Dz.dCB, Dz.dCN, Dz.dF, Dz.dM, Dz.dSz, Dz.dExpr, Dz.dNot, Dz.dAnd, Dz.dOr, Dz.dAndV, Dz.dOrV, Dz.dNotV, Dz.dIfE, Dz.dChain, Dz.dFrz, Dz.dIt, Dz.dRng1, Dz.dRng2, Dz.dSl, Dz.dNoPart, Dz.dPart, Dz.dCat, Dz.dRep, Dz.dLc, Dz.dFor, Dz.dAppend, Dz.dPop, Dz.dPopAt, Dz.rPopAtD, Dz.dSetIx, Dz.dYes, Dz.dRev, Dz.asI, Dz.asQ, Dz.asL, Dz.rIsN, Dz.rIs, Dz.rIsNot, Dz.isNon_d, Dz.isNon_non, Dz.isNon_tup, Dz.isNon_lst, Dz.isNon_str, Dz.isNon_int, Dz.isNon_bl, Dz.isNon_ref, Dz.isNon_dic, Dz.isNon_ty, Dz.rAddU, Dz.rSub, Dz.rMod, Dz.rDiv, Dz.rPow, Dz.rLt, Dz.rLe, Dz.rGt, Dz.rGe, Dz.rEq, Dz.rNe, Dz.rEqv, Dz.rInt2, Dz.rMax2, Dz.rMin2, Dz.rI, Dz.rCmp, Dz.rIxU, Dz.rAbs, Dz.rToInt, Dz.rListU, Dz.rSlU, Dz.trk, Dz.rLenU, Dz.rMulU, Dz.rNeg, Dz.startD, Dz.wipeD, Dz.Tr.d, Dz.Sg.put_M, Dz.Sg.put_n, Dz.Sg.put_pv, Dz.Sg.del_M, Dz.Sg.del_n, Dz.Sg.del_pv, Dz.Mm.put_same, Dz.Mm.put_put, Dz.Sg.put_put, Dz.Mm.put_ne, Dz.Mm.del_ne, Dz.rIsi, Dz.tyN, Dz.tyNames, Dz.isiT, Dz.subT, Dz.tyOk, Dz.tyNames, Dz.pyOf, Dz.toPy, Dz.toPys, Dz.Sg.put_mk, Dz.Sg.del_mk, Dz.spend_M, Dz.spend_pv, Dz.spend_n, Dz.spend_spend, Dz.spend_put, Dz.spend_del, Dz.spNext_iff, Dz.asI_lst, Dz.asI_tup, Dz.dFJ, Dz.dJs, Dz.dFmt, Dz.Tr.isNil, Gz.gPlain, Gz.gSeq, Gz.gNx, Gz.gIf, Gz.gYield, Gz.gOut, Gz.gForG, Gz.dGCall, Gz.dListG, Gz.dForG, Gz.GE.at, Dz.dDGet, Dz.rDGet, Dz.dDGet2, Dz.dDIn, Dz.dDSet, Dz.rDSet, Dz.dDF, Dz.dDM, Dz.dD0, Dz.dDc, Dz.rTupU, Dz.dStar, Dz.keyD, Dz.asD, Dz.dExtend, Dz.rExtendD, Dz.dFld, Dz.dSetFld, Dz.dMeth, Dz.dMake, Dz.dDictP, Dz.dDd, Dz.dPairs, Dz.dTab, Dz.dAugS, Dz.dNever, Dz.dIndex, Dz.dIndexT, List.map_cons, List.map_nil, List.length_cons, List.length_nil, List.length_map, List.length_set, List.replicate, Nat.reduceSub, Nat.reduceAdd, List.cons_append, List.nil_append, List.getElem?_cons_zero, List.getElem?_cons_succ, List.set_cons_zero, List.set_cons_succ, if_true, if_false, Bool.false_eq_true, id, Nat.sub_zero, Bool.not_true, Bool.not_false, true_and, and_true, ne_eq, not_false_eq_true, not_true_eq_false, reduceCtorEq, Option.map_some, Option.bind_some, String.reduceBEq, Bool.or_false, Bool.or_true, Bool.false_or, Bool.true_or, Bool.and_true, Bool.and_false, Bool.true_and, Bool.false_and, decide_true, decide_false, List.all_cons, List.all_nil, List.any_cons, List.any_nil, beq_self_eq_true]
    have g1 : gx (.tup [u, .str "z", .non]) (k + 1) := ⟨by omega, by simp, gu, sz, trivial, trivial⟩
    have g2 : gx (.tup [.non, .str "a", v]) (k + 1) := ⟨by omega, by simp, trivial, sa, gv, trivial⟩
    have w1 : wx (.tup [u, .str "z", .non]) ≤ 4 * (k + 1) := by show wx u + 1 + (1 + 1 + (0 + 1 + 0)) ≤ _; omega
    have w2 : wx (.tup [.non, .str "a", v]) ≤ 4 * (k + 1) := by show 0 + 1 + (1 + 1 + (wx v + 1 + 0)) ≤ _; omega
    refine ⟨by decide, by decide, by decide, by omega, hN _ _ ⟨_, _, _, _, k + 1, rfl, rfl, by omega, g1, g2, w1, w2, ?_, by simp; omega⟩⟩
    intro w hw
    rcases List.mem_append.mp hw with hw | hw
    · exact hv w hw
    · simp only [List.mem_cons, List.not_mem_nil, or_false] at hw
      rcases hw with rfl | rfl
      · exact ⟨gx_mono _ _ _ (by omega) g1, by decide, by omega⟩
      · exact ⟨gx_mono _ _ _ (by omega) g2, by decide, by omega⟩
end Pr
namespace Pr
open PySem PySem.Spec PyProof.Rows L2 Dz Gz
def dd0 : He.DefD := ⟨("is_letter", none), "is_letter", "is_letter", defArgs (top 6), defBody (top 6), defScope (top 6), [], []⟩
def dd1 : He.DefD := ⟨("size_or_none", none), "size_or_none", "size_or_none", defArgs (top 7), defBody (top 7), defScope (top 7), [], []⟩
def dd2 : He.DefD := ⟨("is_tree", none), "is_tree", "is_tree", defArgs (top 8), defBody (top 8), defScope (top 8), [], []⟩
def dd3 : He.DefD := ⟨("_law_deck", none), "_law_deck", "_law_deck", defArgs (top 10), defBody (top 10), defScope (top 10), [], []⟩
def dd4 : He.DefD := ⟨("_law_next", none), "_law_next", "_law_next", defArgs (top 11), defBody (top 11), defScope (top 11), [], []⟩
def dd5 : He.DefD := ⟨("_law_same", none), "_law_same", "_law_same", defArgs (top 12), defBody (top 12), defScope (top 12), [], []⟩
def dd6 : He.DefD := ⟨("_law_letters", none), "_law_letters", "_law_letters", defArgs (top 13), defBody (top 13), defScope (top 13), [], []⟩
def dd7 : He.DefD := ⟨("_law_grown", none), "_law_grown", "_law_grown", defArgs (top 14), defBody (top 14), defScope (top 14), [], []⟩
def dd8 : He.DefD := ⟨("_law_tree", none), "_law_tree", "_law_tree", defArgs (top 15), defBody (top 15), defScope (top 15), [], []⟩
def dd9 : He.DefD := ⟨("_law_odd", none), "_law_odd", "_law_odd", defArgs (top 16), defBody (top 16), defScope (top 16), [], []⟩
def dd10 : He.DefD := ⟨("_law_count", none), "_law_count", "_law_count", defArgs (top 17), defBody (top 17), defScope (top 17), [], []⟩
def dd11 : He.DefD := ⟨("_law_bent", none), "_law_bent", "_law_bent", defArgs (top 18), defBody (top 18), defScope (top 18), [], []⟩
def dd12 : He.DefD := ⟨("law", none), "law", "law", defArgs (top 19), defBody (top 19), defScope (top 19), [], []⟩
def fn : List He.DefD := [dd0, dd1, dd2, dd3, dd4, dd5, dd6, dd7, dd8, dd9, dd10, dd11, dd12]
def fa : List He.Fa := [.glo "is_letter", .glo "size_or_none", .glo "is_tree", .glo "_law_deck", .glo "_law_next", .glo "_law_same", .glo "_law_letters", .glo "_law_grown", .glo "_law_tree", .glo "_law_odd", .glo "_law_count", .glo "_law_bent", .glo "law", .free "abs", .free "bool", .free "int", .free "isinstance", .free "len", .free "list", .free "range", .free "repr", .free "sorted", .free "str", .free "sum", .free "tuple", .int "BATCH" 20, .int "EDITS" 60, .str "LETTERS" "abcdefghijklmnopqrstuvwxyz", .int "MAX_ENTRIES" 20, .int "MAX_NODES" 12]
abbrev RR : PySem.W.OpenRow := PySem.W.OpenLaw.row PySem.Challenge.rw_treewalks_k01_trees_judged
abbrev hk : PySem.W.Hook := He.hookD 4 fa fn
def ob (s : PySem.W.SharedT) : He.AlD := He.obsDG 4 fa fn (HandSHeadRun.getT s)
theorem ob_eq (s : PySem.W.SharedT) : ob s = hk.obs s.abs := He.obsDG_eq (HandSHeadRun.getT_eq s)
def loose : List Str := (["is_letter", "size_or_none", "is_tree", "_law_deck", "_law_next", "_law_same", "_law_letters", "_law_grown", "_law_tree", "_law_odd", "_law_count", "_law_bent", "MAX_NODES", "MAX_ENTRIES", "EDITS", "BATCH", "LETTERS"] : List Str)
theorem run (w : World) : HandSHeadRun.RunEq RR (PySem.W.view RR.prog [19]) hk ob 6000 loose w := by
  intro os
  kernel_rfl
theorem chain {P : Program} {w : World} {K : PySem.W.Frag} {h : Heap} {mg : Str → Option Value} (X : K.In h) (G : h.Ns mainGlobals mg) (c : He.SaysD fa fn K) (base : Heap) {fL : Addr} {fdL : FuncData} (FL : FunD K "law" "law" (defArgs (top 19)) (defBody (top 19)) (defScope (top 19)) [] [] fL fdL) : FnG P w K mg base CX0 90 fL fdL ["_law_script"] (liftSp K spLaw) := by
  have B : Bi mg := ⟨He.free_ok X G (c.fact 13 (f := .free "abs") rfl), He.free_ok X G (c.fact 14 (f := .free "bool") rfl), He.free_ok X G (c.fact 15 (f := .free "int") rfl), He.free_ok X G (c.fact 16 (f := .free "isinstance") rfl), He.free_ok X G (c.fact 17 (f := .free "len") rfl), He.free_ok X G (c.fact 18 (f := .free "list") rfl), He.free_ok X G (c.fact 19 (f := .free "range") rfl), He.free_ok X G (c.fact 20 (f := .free "repr") rfl), He.free_ok X G (c.fact 21 (f := .free "sorted") rfl), He.free_ok X G (c.fact 22 (f := .free "str") rfl), He.free_ok X G (c.fact 23 (f := .free "sum") rfl), He.free_ok X G (c.fact 24 (f := .free "tuple") rfl), He.int_ok X G (c.fact 25 (f := .int "BATCH" 20) rfl), He.int_ok X G (c.fact 26 (f := .int "EDITS" 60) rfl), He.str_ok X G (c.fact 27 (f := .str "LETTERS" "abcdefghijklmnopqrstuvwxyz") rfl), He.int_ok X G (c.fact 28 (f := .int "MAX_ENTRIES" 20) rfl), He.int_ok X G (c.fact 29 (f := .int "MAX_NODES" 12) rfl)⟩
  obtain ⟨fd0, F0⟩ := c.def_ 0 (d := dd0) rfl
  have m0 := He.glo_ok X G (c.fact 0 (f := .glo "is_letter") rfl)
  have q0 : Binds K fd0 ["value"] [] := F0.bindsN fun _ _ _ _ _ _ us hl => match us, hl with | [_], _ => rfl
  obtain ⟨fd1, F1⟩ := c.def_ 1 (d := dd1) rfl
  have m1 := He.glo_ok X G (c.fact 1 (f := .glo "size_or_none") rfl)
  have q1 : Binds K fd1 ["value"] [] := F1.bindsN fun _ _ _ _ _ _ us hl => match us, hl with | [_], _ => rfl
  obtain ⟨fd2, F2⟩ := c.def_ 2 (d := dd2) rfl
  have m2 := He.glo_ok X G (c.fact 2 (f := .glo "is_tree") rfl)
  have q2 : Binds K fd2 ["value"] [] := F2.bindsN fun _ _ _ _ _ _ us hl => match us, hl with | [_], _ => rfl
  obtain ⟨fd3, F3⟩ := c.def_ 3 (d := dd3) rfl
  have m3 := He.glo_ok X G (c.fact 3 (f := .glo "_law_deck") rfl)
  have q3 : Binds K fd3 ["_law_script"] [] := F3.bindsN fun _ _ _ _ _ _ us hl => match us, hl with | [_], _ => rfl
  obtain ⟨fd4, F4⟩ := c.def_ 4 (d := dd4) rfl
  have m4 := He.glo_ok X G (c.fact 4 (f := .glo "_law_next") rfl)
  have q4 : Binds K fd4 ["_law_deck_here", "_law_many"] [] := F4.bindsN fun _ _ _ _ _ _ us hl => match us, hl with | [_, _], _ => rfl
  obtain ⟨fd5, F5⟩ := c.def_ 5 (d := dd5) rfl
  have m5 := He.glo_ok X G (c.fact 5 (f := .glo "_law_same") rfl)
  have q5 : Binds K fd5 ["_law_found", "_law_due"] [] := F5.bindsN fun _ _ _ _ _ _ us hl => match us, hl with | [_, _], _ => rfl
  obtain ⟨fd6, F6⟩ := c.def_ 6 (d := dd6) rfl
  have m6 := He.glo_ok X G (c.fact 6 (f := .glo "_law_letters") rfl)
  have q6 : Binds K fd6 ["_law_deck_here", "_law_size"] [] := F6.bindsN fun _ _ _ _ _ _ us hl => match us, hl with | [_, _], _ => rfl
  obtain ⟨fd7, F7⟩ := c.def_ 7 (d := dd7) rfl
  have m7 := He.glo_ok X G (c.fact 7 (f := .glo "_law_grown") rfl)
  have q7 : Binds K fd7 ["_law_deck_here", "_law_size", "_law_way", "_law_letters_here"] [] := F7.bindsN fun _ _ _ _ _ _ us hl => match us, hl with | [_, _, _, _], _ => rfl
  obtain ⟨fd8, F8⟩ := c.def_ 8 (d := dd8) rfl
  have m8 := He.glo_ok X G (c.fact 8 (f := .glo "_law_tree") rfl)
  have q8 : Binds K fd8 ["_law_deck_here", "_law_limit"] [] := F8.bindsN fun _ _ _ _ _ _ us hl => match us, hl with | [_, _], _ => rfl
  obtain ⟨fd9, F9⟩ := c.def_ 9 (d := dd9) rfl
  have m9 := He.glo_ok X G (c.fact 9 (f := .glo "_law_odd") rfl)
  have q9 : Binds K fd9 ["_law_deck_here"] [] := F9.bindsN fun _ _ _ _ _ _ us hl => match us, hl with | [_], _ => rfl
  obtain ⟨fd10, F10⟩ := c.def_ 10 (d := dd10) rfl
  have m10 := He.glo_ok X G (c.fact 10 (f := .glo "_law_count") rfl)
  have q10 : Binds K fd10 ["_law_value"] [] := F10.bindsN fun _ _ _ _ _ _ us hl => match us, hl with | [_], _ => rfl
  obtain ⟨fd11, F11⟩ := c.def_ 11 (d := dd11) rfl
  have m11 := He.glo_ok X G (c.fact 11 (f := .glo "_law_bent") rfl)
  have q11 : Binds K fd11 ["_law_deck_here", "_law_value"] [] := F11.bindsN fun _ _ _ _ _ _ us hl => match us, hl with | [_, _], _ => rfl
  have D_is_letter : Df P w K mg base CX0 (0 + 1) "is_letter" ["value"] spLetter := df_of (k := 0) F0 sc_is_letter m0 q0 (fun _ _ _ _ _ _ hr hg => b_is_letter B hr hg ) (sem_plain (e_is_letter)) (fun _ _ _ _ h => h)
  have A_size_or_none : ∀ n, Df P w K mg base CX0 (1 + n) "size_or_none" ["value"] (spSN n) := fun n => by
    induction n with
    | zero => exact df_false F1 m1 q1 (by rintro _ _ _ _ ⟨_, _, _, _, h, _⟩; exact absurd h (Nat.not_lt_zero _))
    | succ n ih => exact df_of (k := 1 + n) F1 sc_size_or_none m1 q1 (fun _ _ _ _ _ _ hr hg => b_size_or_none B hr hg D_is_letter (by omega) ih (by omega)) (sem_plain (e_size_or_none n)) (fun _ _ _ _ h => h)
  have D_size_or_none := A_size_or_none 60
  have D_is_tree : Df P w K mg base CX0 (61 + 1) "is_tree" ["value"] spIsTree := df_of (k := 61) F2 sc_is_tree m2 q2 (fun _ _ _ _ _ _ hr hg => b_is_tree B hr hg D_size_or_none (by omega)) (sem_plain (e_is_tree)) (fun _ _ _ _ h => h)
  have D_law_deck : Df P w K mg base CX0 (0 + 1) "_law_deck" ["_law_script"] spDeck := df_of (k := 0) F3 sc_law_deck m3 q3 (fun _ _ _ _ _ _ hr hg => b_law_deck B hr hg ) (sem_plain (e_law_deck)) (fun _ _ _ _ h => h)
  have D_law_next : Df P w K mg base CX0 (0 + 1) "_law_next" ["_law_deck_here", "_law_many"] spNext := df_of (k := 0) F4 sc_law_next m4 q4 (fun _ _ _ _ _ _ hr hg => b_law_next B hr hg ) (e_law_next) (fun _ _ _ _ h => h)
  have A_law_same : ∀ n, Df P w K mg base CX0 (0 + n) "_law_same" ["_law_found", "_law_due"] (spSame n) := fun n => by
    induction n with
    | zero => exact df_false F5 m5 q5 (by rintro _ _ _ _ ⟨_, _, _, _, h, _⟩; exact absurd h (Nat.not_lt_zero _))
    | succ n ih => exact df_of (k := 0 + n) F5 sc_law_same m5 q5 (fun _ _ _ _ _ _ hr hg => b_law_same B hr hg ih (by omega)) (sem_plain (e_law_same n)) (fun _ _ _ _ h => h)
  have D_law_same := A_law_same 70
  have D_law_letters : Df P w K mg base CX0 (1 + 1) "_law_letters" ["_law_deck_here", "_law_size"] spLetters := df_of (k := 1) F6 sc_law_letters m6 q6 (fun _ _ _ _ _ _ hr hg => b_law_letters B hr hg D_law_next (by omega)) (sem_plain (e_law_letters)) (fun _ _ _ _ h => h)
  have A_law_grown : ∀ n, Df P w K mg base CX0 (1 + n) "_law_grown" ["_law_deck_here", "_law_size", "_law_way", "_law_letters_here"] (spGrown n) := fun n => by
    induction n with
    | zero => exact df_false F7 m7 q7 (by rintro _ _ _ _ ⟨_, _, _, _, _, _, _, _, _, h, _⟩; exact absurd h (Nat.not_lt_zero _))
    | succ n ih => exact df_of (k := 1 + n) F7 sc_law_grown m7 q7 (fun _ _ _ _ _ _ hr hg => b_law_grown B hr hg D_law_next (by omega) ih (by omega)) (sem_plain (e_law_grown n)) (fun _ _ _ _ h => h)
  have D_law_grown := A_law_grown 30
  have D_law_tree : Df P w K mg base CX0 (31 + 1) "_law_tree" ["_law_deck_here", "_law_limit"] (spTree 12) := df_of (k := 31) F8 sc_law_tree m8 q8 (fun _ _ _ _ _ _ hr hg => b_law_tree B hr hg D_law_next (by omega) D_law_grown (by omega) D_law_letters (by omega)) (sem_plain (e_law_tree (by decide) (by decide))) (fun _ _ _ _ h => h)
  have D_law_odd : Df P w K mg base CX0 (1 + 1) "_law_odd" ["_law_deck_here"] spOdd := df_of (k := 1) F9 sc_law_odd m9 q9 (fun _ _ _ _ _ _ hr hg => b_law_odd B hr hg D_law_next (by omega)) (sem_plain (e_law_odd)) (fun _ _ _ _ h => h)
  have A_law_count : ∀ n, Df P w K mg base CX0 (0 + n) "_law_count" ["_law_value"] (spCount n) := fun n => by
    induction n with
    | zero => exact df_false F10 m10 q10 (by rintro _ _ _ _ ⟨_, _, _, _, h, _⟩; exact absurd h (Nat.not_lt_zero _))
    | succ n ih => exact df_of (k := 0 + n) F10 sc_law_count m10 q10 (fun _ _ _ _ _ _ hr hg => b_law_count B hr hg ih (by omega)) (sem_plain (e_law_count n)) (fun _ _ _ _ h => h)
  have D_law_count := A_law_count 60
  have A_law_bent : ∀ n, Df P w K mg base CX0 (2 + n) "_law_bent" ["_law_deck_here", "_law_value"] (spBent n) := fun n => by
    induction n with
    | zero => exact df_false F11 m11 q11 (by rintro _ _ _ _ ⟨_, _, _, _, _, _, h, _⟩; exact absurd h (Nat.not_lt_zero _))
    | succ n ih => exact df_of (k := 2 + n) F11 sc_law_bent m11 q11 (fun _ _ _ _ _ _ hr hg => b_law_bent B hr hg D_law_next (by omega) ih (by omega) D_law_odd (by omega)) (sem_plain (e_law_bent n)) (fun _ _ _ _ h => h)
  have D_law_bent := A_law_bent 60
  exact (dfG_of (k := 70) FL sc_law (fun _ _ _ _ _ _ hr hg => b_law B hr hg D_law_deck (by omega) D_law_tree (by omega) D_law_bent (by omega) D_law_odd (by omega) D_law_count (by omega) D_law_same (by omega) D_is_tree (by omega)) (sem_plain (e_law)) (fun _ _ _ _ h => h)).mono (by omega)
end Pr
open PySem PySem.W PySem.Calls PyProof.Rows
theorem PySem.Challenge.cw_treewalks_k01_trees_judged_holds : PySem.Challenge.rw_treewalks_k01_trees_judged.Holds := by
  w_on; o_law
  refine HandSHeadRun.head_any (r := OpenLaw.row PySem.Challenge.rw_treewalks_k01_trees_judged) (q := view (OpenLaw.row PySem.Challenge.rw_treewalks_k01_trees_judged).prog [19]) (H := Pr.hk) (ob := Pr.ob) (M := 6000) (loose := Pr.loose) (d := HandSHeadRun.topDef (OpenLaw.row PySem.Challenge.rw_treewalks_k01_trees_judged).prog 19) (kwd := []) Pr.ob_eq
    (by kernel_rfl) (fun s => by kernel_rfl) Pr.run (by kernel_rfl) (by kernel_rfl) (by kernel_rfl) (by rfl) (by first | assumption | decide +kernel) (by decide +kernel) ⟨rfl, rfl, rfl, rfl, rfl, by decide +kernel⟩ ?hw ?hc
  case hw => w_witness2
  case hc =>
    refine Dz.walkG (l := PySem.Challenge.rw_treewalks_k01_trees_judged) (n := 63) (k := 90) (x := "_law_script") (CX := fun _ => L2.CX0) rfl (by rw [sizeLine_eq]; decide) (by kernel_rfl) ⟨rfl, by decide, by decide⟩ ?F (fun _ _ _ _ _ z => z)
    intro w mg fa h Y G hmg0
    obtain ⟨K, KX, c⟩ := Y
    have hmg : mg ("law" : PySem.Str) = some (.ref fa) := by
      have e : (HandSHeadRun.topDef (OpenLaw.row PySem.Challenge.rw_treewalks_k01_trees_judged).prog 19).name = ("law" : PySem.Str) := by kernel_rfl
      rw [← e]
      exact hmg0
    obtain ⟨fd, F⟩ := c.def_ 12 (d := Pr.dd12) rfl
    have e := hmg.symm.trans (He.glo_ok KX G (c.fact 12 (f := .glo "law") rfl))
    cases e
    have b := L2.FunD.bindsA (ps := ["_law_script"]) F fun _ _ _ _ _ _ us hl => match us, hl with | [_], _ => rfl
    exact ⟨K, fd, Pr.spLaw, KX, fun s v => b s [v] rfl, fun ns hl hb => ⟨ns, rfl, rfl, fun _ => rfl⟩, fun base _ _ => Pr.chain KX G c base F⟩
