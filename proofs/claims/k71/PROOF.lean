import PyProof.Rows.All
import Wide.All
import OpenK.AllK
import Wide.FinOn
import KE.KStateDown
import Lean
import HandS.Base
import HandS.Call
import HandS.Ends
import HandS.More
import HandS.Words
import HandS.WordsExc
import HandS.Defaults
import HandS.Head0
import HandS.Head1
import HandS.Head2
import HandS.HeadEnd
import HandS.HeadHook1
import HandS.HeadHook2
import HandS.ForMost
import HandS.IsInst
import HandS.TupAny
import HandS.Style
import HandS.Exc
import HandS.Wide
import HandS.FStr
import HandS.EndBits
import HandS.NoneIn
import HandS.SortInts
import HandS.Zip
import PySem.Challenge.RW_treewalks_k71_texts_of_trees
set_option Elab.async false
set_option linter.all false
set_option maxRecDepth 100000
set_option maxHeartbeats 4000000
namespace Dz
open PySem PySem.Spec PyProof.Rows L2

/-! deep values: what never changes is carried whole; what may change is an address -/
inductive D where
  | non | bl (b : Bool) | int (i : Int) | str (x : Str) | tup (ws : List D) | lst (ws : List D) | dic (ks : List Key) (ws : List D) | ref (a : Addr) | ty (n : String)
deriving Inhabited

/-- the locked part of an abstract heap -/
def fz (H : Hp) : Hp := fun b => match H b with
  | some (.frz o u) => some (.frz o u)
  | _ => none
theorem fz_some {H : Hp} {b : Addr} {z : HO} (h : fz H b = some z) : ∃ o u, z = .frz o u ∧ H b = some (.frz o u) := by
  unfold fz at h
  split at h
  · rename_i o u e
    cases h
    exact ⟨o, u, rfl, e⟩
  · cases h
theorem fz_frz {H : Hp} {b : Addr} {o : Obj} {u : HO} (h : H b = some (.frz o u)) : fz H b = some (.frz o u) := by
  unfold fz; rw [h]
abbrev FzL (K : PySem.W.Frag) (H : Hp) (a : Addr) (vs : List V) : Prop := SqL K (fz H) a vs
theorem FzL.sq {K : PySem.W.Frag} {H : Hp} {a : Addr} {vs : List V} (h : FzL K H a vs) : SqL K H a vs := by
  rcases h with (h | ⟨o, h⟩) | h
  · obtain ⟨_, _, e, _⟩ := fz_some h
    cases e
  · obtain ⟨_, _, e, q⟩ := fz_some h
    cases e
    exact .inl (.inr ⟨_, q⟩)
  · exact .inr h

mutual
def Rep (K : PySem.W.Frag) (H : Hp) : D → V → Prop
  | .non, v => v = .non
  | .bl b, v => v = .bl b
  | .int i, v => v = .int i
  | .str x, v => v = .str x
  | .tup ws, v => ∃ a vs, v = .ref a ∧ SqT K H a vs ∧ Reps K H ws vs
  | .lst ws, v => ∃ a vs, v = .ref a ∧ FzL K H a vs ∧ Reps K H ws vs
  | .dic ks ws, v => ∃ a vs o, v = .ref a ∧ H a = some (.frz o (.dK (ks.zip vs))) ∧ ks.length = vs.length ∧ Reps K H ws vs
  | .ref a, v => v = .ref a
  | .ty n, v => v = .ty n
def Reps (K : PySem.W.Frag) (H : Hp) : List D → List V → Prop
  | [], vs => vs = []
  | w :: ws, vs => ∃ v r, vs = v :: r ∧ Rep K H w v ∧ Reps K H ws r
end

/-- what no run changes -/
structure Ext (H H' : Hp) : Prop where
  tups : ∀ b xs, H b = some (.tup xs) → H' b = some (.tup xs)
  frzs : ∀ b o u, H b = some (.frz o u) → H' b = some (.frz o u)
theorem Ext.refl (H : Hp) : Ext H H := ⟨fun _ _ h => h, fun _ _ _ h => h⟩
theorem Ext.trans {H H1 H2 : Hp} (a : Ext H H1) (b : Ext H1 H2) : Ext H H2 := ⟨fun c xs h => b.tups c xs (a.tups c xs h), fun c o u h => b.frzs c o u (a.frzs c o u h)⟩
theorem Ext.new {H : Hp} {p : Addr} {o : HO} (h : H p = none) : Ext H (upd H p o) :=
  ⟨fun b xs e => by rw [upd_ne (ne_of_none e h)]; exact e, fun b ob u e => by rw [upd_ne (ne_of_none e h)]; exact e⟩
theorem Ext.put {H : Hp} {p : Addr} {o : HO} (h : Mut (H p)) : Ext H (upd H p o) :=
  ⟨fun b xs e => by rw [upd_ne (fun z => by subst z; rw [e] at h; exact h)]; exact e, fun b ob u e => by rw [upd_ne (fun z => by subst z; rw [e] at h; exact h)]; exact e⟩
theorem Ext.sqT {K : PySem.W.Frag} {H H' : Hp} {a : Addr} {vs : List V} (e : Ext H H') (h : SqT K H a vs) : SqT K H' a vs := by
  rcases h with (h | ⟨o, h⟩) | h
  · exact .inl (.inl (e.tups _ _ h))
  · exact .inl (.inr ⟨o, e.frzs _ _ _ h⟩)
  · exact .inr h
theorem Ext.fzL {K : PySem.W.Frag} {H H' : Hp} {a : Addr} {vs : List V} (e : Ext H H') (h : FzL K H a vs) : FzL K H' a vs := by
  rcases h with (h | ⟨o, h⟩) | h
  · obtain ⟨_, _, z, _⟩ := fz_some h
    cases z
  · obtain ⟨_, _, z, q⟩ := fz_some h
    cases z
    exact .inl (.inr ⟨_, fz_frz (e.frzs _ _ _ q)⟩)
  · exact .inr h
mutual
theorem Rep.ext {K : PySem.W.Frag} {H H' : Hp} (e : Ext H H') : ∀ (w : D) (v : V), Rep K H w v → Rep K H' w v
  | .non, v, h => h
  | .bl b, v, h => h
  | .int i, v, h => h
  | .str x, v, h => h
  | .tup ws, v, h => by
    obtain ⟨a, vs, h1, h2, h3⟩ := h
    exact ⟨a, vs, h1, e.sqT h2, Reps.ext e ws vs h3⟩
  | .lst ws, v, h => by
    obtain ⟨a, vs, h1, h2, h3⟩ := h
    exact ⟨a, vs, h1, e.fzL h2, Reps.ext e ws vs h3⟩
  | .dic ks ws, v, h => by
    obtain ⟨a, vs, o, h1, h2, h4, h3⟩ := h
    exact ⟨a, vs, o, h1, e.frzs _ _ _ h2, h4, Reps.ext e ws vs h3⟩
  | .ref a, v, h => h
  | .ty n, v, h => h
theorem Reps.ext {K : PySem.W.Frag} {H H' : Hp} (e : Ext H H') : ∀ (ws : List D) (vs : List V), Reps K H ws vs → Reps K H' ws vs
  | [], vs, h => h
  | w :: ws, vs, h => by
    obtain ⟨v, r, h1, h2, h3⟩ := h
    exact ⟨v, r, h1, Rep.ext e w v h2, Reps.ext e ws r h3⟩
end
theorem Reps.len {K : PySem.W.Frag} {H : Hp} : ∀ {ws : List D} {vs : List V}, Reps K H ws vs → ws.length = vs.length
  | [], vs, h => by cases (show vs = [] from h); rfl
  | w :: ws, vs, h => by
    obtain ⟨v, r, rfl, _, h3⟩ := h
    rw [List.length_cons, List.length_cons, Reps.len h3]
theorem Reps.get {K : PySem.W.Frag} {H : Hp} : ∀ {ws : List D} {vs : List V} {i : Nat} {w : D}, Reps K H ws vs → ws[i]? = some w → ∃ v, vs[i]? = some v ∧ Rep K H w v
  | [], vs, i, w, h, e => by simp at e
  | x :: ws, vs, 0, w, h, e => by
    obtain ⟨v, r, rfl, h2, h3⟩ := h
    simp at e; subst e
    exact ⟨v, rfl, h2⟩
  | x :: ws, vs, i + 1, w, h, e => by
    obtain ⟨v, r, rfl, h2, h3⟩ := h
    obtain ⟨v', e1, e2⟩ := Reps.get (i := i) (w := w) h3 (by simpa using e)
    exact ⟨v', by simpa using e1, e2⟩
theorem Reps.getV {K : PySem.W.Frag} {H : Hp} : ∀ {ws : List D} {vs : List V} {i : Nat} {v : V}, Reps K H ws vs → vs[i]? = some v → ∃ w, ws[i]? = some w ∧ Rep K H w v := fun {ws vs i v} h e => by
  have hi : i < vs.length := (List.getElem?_eq_some_iff.mp e).1
  have hj : i < ws.length := by rw [h.len]; exact hi
  obtain ⟨v', e1, e2⟩ := h.get (i := i) (w := ws[i]) (by simp [hj])
  rw [e] at e1
  cases e1
  exact ⟨ws[i], by simp [hj], e2⟩
theorem Reps.append {K : PySem.W.Frag} {H : Hp} : ∀ {ws us : List D} {vs rs : List V}, Reps K H ws vs → Reps K H us rs → Reps K H (ws ++ us) (vs ++ rs)
  | [], us, vs, rs, h, g => by cases (show vs = [] from h); exact g
  | w :: ws, us, vs, rs, h, g => by
    obtain ⟨v, r, rfl, h2, h3⟩ := h
    exact ⟨v, r ++ rs, rfl, h2, Reps.append h3 g⟩
theorem Reps.take {K : PySem.W.Frag} {H : Hp} : ∀ {ws : List D} {vs : List V} (n : Nat), Reps K H ws vs → Reps K H (ws.take n) (vs.take n)
  | [], vs, n, h => by cases (show vs = [] from h); simp [Reps]
  | w :: ws, vs, 0, h => by simp [Reps]
  | w :: ws, vs, n + 1, h => by
    obtain ⟨v, r, rfl, h2, h3⟩ := h
    exact ⟨v, r.take n, rfl, h2, Reps.take n h3⟩
theorem Reps.drop {K : PySem.W.Frag} {H : Hp} : ∀ {ws : List D} {vs : List V} (n : Nat), Reps K H ws vs → Reps K H (ws.drop n) (vs.drop n)
  | [], vs, n, h => by cases (show vs = [] from h); simp [Reps]
  | w :: ws, vs, 0, h => h
  | w :: ws, vs, n + 1, h => by
    obtain ⟨v, r, rfl, h2, h3⟩ := h
    exact Reps.drop (ws := ws) (vs := r) n h3
theorem Reps.set {K : PySem.W.Frag} {H : Hp} {w : D} {v : V} (q : Rep K H w v) : ∀ {ws : List D} {vs : List V} (n : Nat), Reps K H ws vs → Reps K H (ws.set n w) (vs.set n v)
  | [], vs, n, h => by cases (show vs = [] from h); exact h
  | x :: ws, vs, 0, h => by
    obtain ⟨y, r, rfl, h2, h3⟩ := h
    exact ⟨v, r, rfl, q, h3⟩
  | x :: ws, vs, n + 1, h => by
    obtain ⟨y, r, rfl, h2, h3⟩ := h
    exact ⟨y, r.set n v, rfl, h2, Reps.set q n h3⟩
theorem Reps.erase {K : PySem.W.Frag} {H : Hp} : ∀ {ws : List D} {vs : List V} (n : Nat), Reps K H ws vs → Reps K H (ws.eraseIdx n) (vs.eraseIdx n)
  | [], vs, n, h => by cases (show vs = [] from h); exact h
  | x :: ws, vs, 0, h => by
    obtain ⟨y, r, rfl, h2, h3⟩ := h
    exact h3
  | x :: ws, vs, n + 1, h => by
    obtain ⟨y, r, rfl, h2, h3⟩ := h
    exact ⟨y, r.eraseIdx n, rfl, h2, Reps.erase n h3⟩
theorem Reps.reverse {K : PySem.W.Frag} {H : Hp} : ∀ {ws : List D} {vs : List V}, Reps K H ws vs → Reps K H ws.reverse vs.reverse
  | [], vs, h => by cases (show vs = [] from h); exact h
  | x :: ws, vs, h => by
    obtain ⟨y, r, rfl, h2, h3⟩ := h
    rw [List.reverse_cons, List.reverse_cons]
    exact Reps.append (Reps.reverse h3) ⟨y, [], rfl, h2, rfl⟩
theorem Reps.ints {K : PySem.W.Frag} {H : Hp} : ∀ {ns : List Int} {vs : List V}, Reps K H (ns.map D.int) vs → vs = ns.map V.int
  | [], vs, h => h
  | n :: ns, vs, h => by
    obtain ⟨y, r, rfl, h2, h3⟩ := h
    rw [Reps.ints (ns := ns) h3, (show y = V.int n from h2)]; rfl
theorem Reps.ofInts {K : PySem.W.Frag} {H : Hp} : ∀ {ns : List Int}, Reps K H (ns.map D.int) (ns.map V.int)
  | [] => rfl
  | n :: ns => ⟨.int n, ns.map V.int, rfl, rfl, Reps.ofInts⟩
theorem Reps.strs {K : PySem.W.Frag} {H : Hp} : ∀ {ns : List Str} {vs : List V}, Reps K H (ns.map D.str) vs → vs = ns.map V.str
  | [], vs, h => h
  | n :: ns, vs, h => by
    obtain ⟨y, r, rfl, h2, h3⟩ := h
    rw [Reps.strs (ns := ns) h3, (show y = V.str n from h2)]; rfl
theorem Reps.ofStrs {K : PySem.W.Frag} {H : Hp} : ∀ {ns : List Str}, Reps K H (ns.map D.str) (ns.map V.str)
  | [] => rfl
  | n :: ns => ⟨.str n, ns.map V.str, rfl, rfl, Reps.ofStrs⟩
theorem Reps.bls {K : PySem.W.Frag} {H : Hp} : ∀ {ns : List Bool} {vs : List V}, Reps K H (ns.map D.bl) vs → vs = ns.map V.bl
  | [], vs, h => h
  | n :: ns, vs, h => by
    obtain ⟨y, r, rfl, h2, h3⟩ := h
    rw [Reps.bls (ns := ns) h3, (show y = V.bl n from h2)]; rfl

/-! what may change: lists, dicts, instances, and one box of ints and private lists of ints -/
abbrev Bx := List (Sum Int (List Int))
inductive MO where
  | lst (ws : List D) | dic (ks : List Key) (ws : List D) | ins (C : Addr) (ns : List Str) (ws : List D) | box (I : Nat → Bx → Prop)
abbrev Mm := Addr → Option MO
structure Sg where
  M : Mm
  n : Nat
  pv : List Addr
def Mm.put (M : Mm) (a : Addr) (o : MO) : Mm := fun b => if b = a then some o else M b
def Mm.del (M : Mm) (a : Addr) : Mm := fun b => if b = a then none else M b
@[simp] theorem Mm.put_same {M : Mm} {a : Addr} {o : MO} : M.put a o a = some o := by simp [Mm.put]
theorem Mm.put_ne {M : Mm} {a b : Addr} {o : MO} (h : b ≠ a) : M.put a o b = M b := by simp [Mm.put, h]
@[simp] theorem Mm.del_same {M : Mm} {a : Addr} : M.del a a = none := by simp [Mm.del]
theorem Mm.del_ne {M : Mm} {a b : Addr} (h : b ≠ a) : M.del a b = M b := by simp [Mm.del, h]
@[simp] theorem Mm.put_put {M : Mm} {a : Addr} {o o' : MO} : (M.put a o).put a o' = M.put a o' := by
  funext b; unfold Mm.put; split <;> rfl
theorem Mm.del_put {M : Mm} {a : Addr} {o : MO} (h : M a = none) : (M.put a o).del a = M := by
  funext b; unfold Mm.put Mm.del
  by_cases e : b = a
  · subst e; simp [h]
  · simp [e]
def Sg.put (s : Sg) (a : Addr) (o : MO) : Sg := { s with M := s.M.put a o }
def Sg.del (s : Sg) (a : Addr) : Sg := { s with M := s.M.del a }
@[simp] theorem Sg.put_M {s : Sg} {a : Addr} {o : MO} : (s.put a o).M = s.M.put a o := rfl
@[simp] theorem Sg.del_M {s : Sg} {a : Addr} : (s.del a).M = s.M.del a := rfl
@[simp] theorem Sg.put_n {s : Sg} {a : Addr} {o : MO} : (s.put a o).n = s.n := rfl
@[simp] theorem Sg.del_n {s : Sg} {a : Addr} : (s.del a).n = s.n := rfl
@[simp] theorem Sg.put_pv {s : Sg} {a : Addr} {o : MO} : (s.put a o).pv = s.pv := rfl
@[simp] theorem Sg.del_pv {s : Sg} {a : Addr} : (s.del a).pv = s.pv := rfl
@[simp] theorem Sg.put_put {s : Sg} {a : Addr} {o o' : MO} : (s.put a o).put a o' = s.put a o' := by
  obtain ⟨M, n, pv⟩ := s
  show Sg.mk ((M.put a o).put a o') n pv = _
  rw [Mm.put_put]; rfl
theorem sg_del_put {s : Sg} {p : Addr} {o : MO} (h : s.M p = none) : (s.put p o).del p = s := by
  obtain ⟨M, n, pv⟩ := s
  show Sg.mk ((M.put p o).del p) n pv = _
  rw [Mm.del_put h]
/-- a box's content: ints, and private lists at the addresses pv -/
def BxAt (H : Hp) : Bx → List V → List Addr → Prop
  | [], vs, as => vs = [] ∧ as = []
  | .inl i :: r, vs, as => ∃ vs', vs = .int i :: vs' ∧ BxAt H r vs' as
  | .inr ns :: r, vs, as => ∃ a vs' as', vs = .ref a :: vs' ∧ as = a :: as' ∧ H a = some (.lst (ns.map V.int)) ∧ BxAt H r vs' as'
def ORep (K : PySem.W.Frag) (H : Hp) (s : Sg) (a : Addr) : MO → Prop
  | .lst ws => ∃ vs, H a = some (.lst vs) ∧ Reps K H ws vs
  | .dic ks ws => ∃ vs, H a = some (.dK (ks.zip vs)) ∧ ks.length = vs.length ∧ Reps K H ws vs
  | .ins C ns ws => ∃ dx vs, H a = some (.ins C dx (ns.zip vs)) ∧ ns.length = vs.length ∧ Reps K H ws vs
  | .box I => ∃ st vs, (∃ m, s.n ≤ m ∧ I m st) ∧ H a = some (.lst vs) ∧ BxAt H st vs s.pv ∧ s.pv.Nodup
structure MRep (K : PySem.W.Frag) (H : Hp) (s : Sg) : Prop where
  at_ : ∀ a o, s.M a = some o → ORep K H s a o
  one : ∀ a b I J, s.M a = some (.box I) → s.M b = some (.box J) → a = b
  pvs : ∀ b ∈ s.pv, Mut (H b) ∧ s.M b = none
theorem ORep.mut {K : PySem.W.Frag} {H : Hp} {s : Sg} {a : Addr} {o : MO} (h : ORep K H s a o) : Mut (H a) := by
  cases o with
  | lst ws => obtain ⟨vs, e, _⟩ := h; rw [e]; trivial
  | dic ks ws => obtain ⟨vs, e, _⟩ := h; rw [e]; trivial
  | ins C ns ws => obtain ⟨dx, vs, e, _⟩ := h; rw [e]; trivial
  | box I => obtain ⟨st, vs, _, e, _⟩ := h; rw [e]; trivial
theorem MRep.free {K : PySem.W.Frag} {H : Hp} {s : Sg} (m : MRep K H s) {a : Addr} (h : H a = none) : s.M a = none := by
  cases q : s.M a with
  | none => rfl
  | some o => have := (m.at_ a o q).mut; rw [h] at this; exact this.elim
theorem MRep.npv {K : PySem.W.Frag} {H : Hp} {s : Sg} (m : MRep K H s) {a : Addr} (h : H a = none) : a ∉ s.pv := fun q => by
  have := (m.pvs a q).1; rw [h] at this; exact this
theorem BxAt.keep {H H' : Hp} : ∀ {st : Bx} {vs : List V} {as : List Addr}, BxAt H st vs as → (∀ b ∈ as, H' b = H b) → BxAt H' st vs as
  | [], vs, as, h, k => h
  | .inl i :: r, vs, as, h, k => by obtain ⟨vs', e, h'⟩ := h; exact ⟨vs', e, BxAt.keep h' k⟩
  | .inr ns :: r, vs, as, h, k => by
    obtain ⟨a, vs', as', e1, rfl, e, h'⟩ := h
    exact ⟨a, vs', as', e1, rfl, (k a List.mem_cons_self).trans e, BxAt.keep h' fun b hb => k b (List.mem_cons_of_mem _ hb)⟩
/-- the state's step: what never changes stays, and so does what is not tracked -/
structure Stp (H : Hp) (s : Sg) (H' : Hp) (s' : Sg) : Prop where
  ext : Ext H H'
  fr : ∀ b o, H b = some o → Mut (some o) → s.M b = none → b ∉ s.pv → H' b = some o ∧ s'.M b = none ∧ b ∉ s'.pv
theorem Stp.refl (H : Hp) (s : Sg) : Stp H s H s := ⟨.refl _, fun _ _ h _ h2 h3 => ⟨h, h2, h3⟩⟩
theorem Stp.trans {H H1 H2 : Hp} {s s1 s2 : Sg} (a : Stp H s H1 s1) (b : Stp H1 s1 H2 s2) : Stp H s H2 s2 :=
  ⟨a.ext.trans b.ext, fun c o h1 h2 h3 h4 => by obtain ⟨x, y, z⟩ := a.fr c o h1 h2 h3 h4; exact b.fr c o x h2 y z⟩
theorem Stp.new {H : Hp} {s : Sg} {p : Addr} {o : HO} (h : H p = none) : Stp H s (upd H p o) s :=
  ⟨.new h, fun b u h1 _ h3 h4 => ⟨by rw [upd_ne (ne_of_none h1 h)]; exact h1, h3, h4⟩⟩
/-- one object is made or written, and tracked -/
theorem Stp.put {H : Hp} {s : Sg} {p : Addr} {o : HO} {mo : MO} (h : H p = none ∨ (Mut (H p) ∧ s.M p ≠ none)) : Stp H s (upd H p o) (s.put p mo) := by
  have ne : ∀ b u, H b = some u → s.M b = none → b ≠ p := fun b u h1 h2 z => by
    subst z
    rcases h with h | h
    · rw [h] at h1; cases h1
    · exact h.2 h2
  refine ⟨?_, fun b u h1 _ h3 h4 => ⟨by rw [upd_ne (ne b u h1 h3)]; exact h1, (Mm.put_ne (ne b u h1 h3)).trans h3, h4⟩⟩
  rcases h with h | h
  · exact .new h
  · exact .put h.1
theorem Stp.del {H : Hp} {s : Sg} {p : Addr} {o : HO} (h : Mut (H p)) (h2 : s.M p ≠ none) : Stp H s (upd H p o) (s.del p) := by
  have ne : ∀ b, s.M b = none → b ≠ p := fun b h3 z => by subst z; exact h2 h3
  exact ⟨.put h, fun b u h1 _ h3 h4 => ⟨by rw [upd_ne (ne b h3)]; exact h1, (Mm.del_ne (ne b h3)).trans h3, h4⟩⟩
theorem Stp.weak {H : Hp} {s s' : Sg} (k : ∀ a o, s'.M a = some o → s.M a = some o) (kp : s'.pv = s.pv) : Stp H s H s' :=
  ⟨.refl _, fun b u h1 _ h3 h4 => by
    refine ⟨h1, ?_, by rw [kp]; exact h4⟩
    cases z : s'.M b with
    | none => rfl
    | some x => rw [k b x z] at h3; cases h3⟩
/-- nothing of what may change was touched -/
theorem MRep.ext {K : PySem.W.Frag} {H H' : Hp} {s : Sg} (m : MRep K H s) (e : Ext H H') (k : ∀ b, Mut (H b) → H' b = H b) : MRep K H' s where
  at_ := fun a o h => by
    have q := m.at_ a o h
    have ka := k a q.mut
    cases o with
    | lst ws => obtain ⟨vs, h1, h2⟩ := q; exact ⟨vs, ka.trans h1, Reps.ext e _ _ h2⟩
    | dic ks ws => obtain ⟨vs, h1, h2, h3⟩ := q; exact ⟨vs, ka.trans h1, h2, Reps.ext e _ _ h3⟩
    | ins C ns ws => obtain ⟨dx, vs, h1, h2, h3⟩ := q; exact ⟨dx, vs, ka.trans h1, h2, Reps.ext e _ _ h3⟩
    | box I =>
      obtain ⟨st, vs, h0, h1, h2, h3⟩ := q
      exact ⟨st, vs, h0, ka.trans h1, h2.keep fun b hb => k b (m.pvs b hb).1, h3⟩
  one := m.one
  pvs := fun b hb => by rw [k b (m.pvs b hb).1]; exact m.pvs b hb
/-- a new object -/
theorem MRep.new {K : PySem.W.Frag} {H : Hp} {s : Sg} {p : Addr} {o : HO} (m : MRep K H s) (h : H p = none) : MRep K (upd H p o) s :=
  m.ext (.new h) fun b z => upd_ne fun q => by subst q; rw [h] at z; exact z
/-- forget some -/
theorem MRep.weak {K : PySem.W.Frag} {H : Hp} {s s' : Sg} (m : MRep K H s) (k : ∀ a o, s'.M a = some o → s.M a = some o) (kn : s'.n ≤ s.n) (kp : s'.pv = s.pv) : MRep K H s' where
  at_ := fun a o h => by
    have q := m.at_ a o (k a o h)
    cases o with
    | lst ws => exact q
    | dic ks ws => exact q
    | ins C ns ws => exact q
    | box I =>
      obtain ⟨st, vs, ⟨m0, hm, hI⟩, h1, h2, h3⟩ := q
      exact ⟨st, vs, ⟨m0, Nat.le_trans kn hm, hI⟩, h1, by rw [kp]; exact h2, by rw [kp]; exact h3⟩
  one := fun a b I J h1 h2 => m.one a b I J (k _ _ h1) (k _ _ h2)
  pvs := fun b hb => by
    rw [kp] at hb
    refine ⟨(m.pvs b hb).1, ?_⟩
    cases z : s'.M b with
    | none => rfl
    | some u => exact absurd (k b u z) (by rw [(m.pvs b hb).2]; simp)
/-- write a tracked object, or track a new one -/
theorem MRep.write {K : PySem.W.Frag} {H : Hp} {s : Sg} {p : Addr} {o : HO} {mo : MO} (m : MRep K H s) (h : H p = none ∨ ∃ u, s.M p = some u ∧ ∀ I, u ≠ .box I) (nb : ∀ I, mo ≠ .box I) (new : ORep K (upd H p o) (s.put p mo) p mo) : MRep K (upd H p o) (s.put p mo) := by
  have np : p ∉ s.pv := fun q => by
    rcases h with h | ⟨u, h, _⟩
    · exact m.npv h q
    · rw [(m.pvs p q).2] at h; cases h
  have mp : H p = none ∨ Mut (H p) := by
    rcases h with h | ⟨u, h, _⟩
    · exact .inl h
    · exact .inr (m.at_ p u h).mut
  have ex : Ext H (upd H p o) := by
    rcases mp with z | z
    · exact .new z
    · exact .put z
  have nep : ∀ b ∈ s.pv, b ≠ p := fun b hb e => by subst e; exact np hb
  refine ⟨fun a u h1 => ?_, fun a b I J h1 h2 => ?_, fun b hb => ?_⟩
  · by_cases ha : a = p
    · subst ha
      rw [show (s.put a mo).M a = some mo from Mm.put_same] at h1
      cases h1
      exact new
    · have h1' : s.M a = some u := by rw [← h1]; exact (Mm.put_ne ha).symm
      have q := m.at_ a u h1'
      cases u with
      | lst ws => obtain ⟨vs, z1, z2⟩ := q; exact ⟨vs, by rw [upd_ne ha]; exact z1, Reps.ext ex _ _ z2⟩
      | dic ks ws => obtain ⟨vs, z1, z2, z3⟩ := q; exact ⟨vs, by rw [upd_ne ha]; exact z1, z2, Reps.ext ex _ _ z3⟩
      | ins C ns ws => obtain ⟨dx, vs, z1, z2, z3⟩ := q; exact ⟨dx, vs, by rw [upd_ne ha]; exact z1, z2, Reps.ext ex _ _ z3⟩
      | box I =>
        obtain ⟨st, vs, z0, z1, z2, z3⟩ := q
        exact ⟨st, vs, z0, by rw [upd_ne ha]; exact z1, z2.keep fun b hb => upd_ne (nep b hb), z3⟩
  · have ha : a ≠ p := fun e => by subst e; rw [show (s.put a mo).M a = some mo from Mm.put_same] at h1; cases h1; exact nb _ rfl
    have hb' : b ≠ p := fun e => by subst e; rw [show (s.put b mo).M b = some mo from Mm.put_same] at h2; cases h2; exact nb _ rfl
    rw [show (s.put p mo).M a = s.M a from Mm.put_ne ha] at h1
    rw [show (s.put p mo).M b = s.M b from Mm.put_ne hb'] at h2
    exact m.one a b I J h1 h2
  · exact ⟨by rw [upd_ne (nep b hb)]; exact (m.pvs b hb).1, (Mm.put_ne (nep b hb)).trans (m.pvs b hb).2⟩
end Dz
namespace Dz
open PySem PySem.Spec PyProof.Rows L2

/-! ### readings over deep values -/
abbrev Ev := List (Option D)
abbrev KD := D → Sg → Prop
abbrev DE := Ev → Sg → KD → Prop
abbrev DT := Ev → Sg → (Bool → Sg → Prop) → Prop
abbrev DA := Ev → Sg → (List D → Sg → Prop) → Prop
structure DEnds where
  nx : Ev → Sg → Prop
  rt : KD
  bk : Ev → Sg → Prop := fun _ _ => False
  ct : Ev → Sg → Prop := fun _ _ => False
abbrev DS := DEnds → Ev → Sg → Prop

def REnv (K : PySem.W.Frag) (H : Hp) (env : Ev) (σ : L2.St) : Prop := env.length = σ.length ∧ ∀ (i : Nat) w, env[i]? = some (some w) → ∃ v, σ[i]? = some (some v) ∧ Rep K H w v
theorem REnv.ext {K : PySem.W.Frag} {H H' : Hp} {env : Ev} {σ : L2.St} (e : Ext H H') (h : REnv K H env σ) : REnv K H' env σ :=
  ⟨h.1, fun i w q => by obtain ⟨v, a, b⟩ := h.2 i w q; exact ⟨v, a, Rep.ext e _ _ b⟩⟩
theorem REnv.set {K : PySem.W.Frag} {H : Hp} {env : Ev} {σ : L2.St} {w : D} {v : V} (i : Nat) (h : REnv K H env σ) (r : Rep K H w v) : REnv K H (env.set i (some w)) (σ.set i (some v)) := by
  refine ⟨by rw [List.length_set, List.length_set]; exact h.1, fun j u q => ?_⟩
  rw [List.getElem?_set] at q
  rw [List.getElem?_set]
  split at q
  · rename_i e
    subst e
    split at q
    · rename_i lt
      cases q
      rw [if_pos rfl, if_pos (by rw [← h.1]; exact lt)]
      exact ⟨v, rfl, r⟩
    · cases q
  · rename_i ne
    rw [if_neg ne]
    exact h.2 j u q
def Post (K : PySem.W.Frag) (H : Hp) (s0 : Sg) (R : KD) (Q : VK) : Prop := ∀ w s v H', R w s → Stp H s0 H' s → MRep K H' s → Rep K H' w v → Q v H'
def PostB (K : PySem.W.Frag) (H : Hp) (s0 : Sg) (R : Bool → Sg → Prop) (Q : Bool → Hp → Prop) : Prop := ∀ b s H', R b s → Stp H s0 H' s → MRep K H' s → Q b H'
def PostA (K : PySem.W.Frag) (H : Hp) (s0 : Sg) (R : List D → Sg → Prop) (Q : List V → Hp → Prop) : Prop := ∀ w s v H', R w s → Stp H s0 H' s → MRep K H' s → Reps K H' w v → Q v H'
def PostN (K : PySem.W.Frag) (H : Hp) (s0 : Sg) (R : Ev → Sg → Prop) (Q : L2.St → Hp → Prop) : Prop := ∀ env s σ H', R env s → Stp H s0 H' s → MRep K H' s → REnv K H' env σ → Q σ H'
theorem Post.ext {K : PySem.W.Frag} {H H1 : Hp} {s0 s1 : Sg} {R : KD} {Q : VK} (e : Stp H s0 H1 s1) (p : Post K H s0 R Q) : Post K H1 s1 R Q := fun w s v H' a b c d => p w s v H' a (e.trans b) c d
theorem PostB.ext {K : PySem.W.Frag} {H H1 : Hp} {s0 s1 : Sg} {R : Bool → Sg → Prop} {Q : Bool → Hp → Prop} (e : Stp H s0 H1 s1) (p : PostB K H s0 R Q) : PostB K H1 s1 R Q := fun w s H' a b c => p w s H' a (e.trans b) c
theorem PostA.ext {K : PySem.W.Frag} {H H1 : Hp} {s0 s1 : Sg} {R : List D → Sg → Prop} {Q : List V → Hp → Prop} (e : Stp H s0 H1 s1) (p : PostA K H s0 R Q) : PostA K H1 s1 R Q := fun w s v H' a b c d => p w s v H' a (e.trans b) c d
theorem PostN.ext {K : PySem.W.Frag} {H H1 : Hp} {s0 s1 : Sg} {R : Ev → Sg → Prop} {Q : L2.St → Hp → Prop} (e : Stp H s0 H1 s1) (p : PostN K H s0 R Q) : PostN K H1 s1 R Q := fun w s v H' a b c d => p w s v H' a (e.trans b) c d
structure PostD (K : PySem.W.Frag) (H : Hp) (s0 : Sg) (DD : DEnds) (D : Ends) : Prop where
  nx : PostN K H s0 DD.nx D.nx
  rt : Post K H s0 DD.rt D.rt
  bk : PostN K H s0 DD.bk D.bk
  ct : PostN K H s0 DD.ct D.ct
theorem PostD.ext {K : PySem.W.Frag} {H H1 : Hp} {s0 s1 : Sg} {DD : DEnds} {D : Ends} (e : Stp H s0 H1 s1) (p : PostD K H s0 DD D) : PostD K H1 s1 DD D := ⟨p.nx.ext e, p.rt.ext e, p.bk.ext e, p.ct.ext e⟩

def liftE (K : PySem.W.Frag) (t : DE) : TE := fun σ H Q => ∃ env s R, REnv K H env σ ∧ MRep K H s ∧ t env s R ∧ Post K H s R Q
def liftT (K : PySem.W.Frag) (t : DT) : TT := fun σ H Q => ∃ env s R, REnv K H env σ ∧ MRep K H s ∧ t env s R ∧ PostB K H s R Q
def liftA (K : PySem.W.Frag) (t : DA) : TA := fun σ H Q => ∃ env s R, REnv K H env σ ∧ MRep K H s ∧ t env s R ∧ PostA K H s R Q
def liftS (K : PySem.W.Frag) (t : DS) : TS := fun D σ H => ∃ env s DD, REnv K H env σ ∧ MRep K H s ∧ t DD env s ∧ PostD K H s DD D
abbrev PD (X : Cx) (e : Expr) (t : DE) : Prop := PE X e (liftE X.K t)
abbrev PDT (X : Cx) (e : Expr) (t : DT) : Prop := PT X e (liftT X.K t)
abbrev PDW (X : Cx) (e : Expr) (t : DT) : Prop := PW X e (liftT X.K t)
abbrev PDA (X : Cx) (es : List Expr) (t : DA) : Prop := PA X es (liftA X.K t)
abbrev PDS (X : Cx) (st : Stmt) (t : DS) : Prop := PS X st (liftS X.K t)
abbrev PDSs (X : Cx) (st : List Stmt) (t : DS) : Prop := PSs X st (liftS X.K t)

section
variable {X : Cx}
theorem pe_imp {e : Expr} {t t' : TE} (h : PE X e t) (hi : ∀ σ H Q, t' σ H Q → t σ H Q) : PE X e t' := ⟨fun pins s σ H Q I q => h.run pins s σ H Q I (hi σ H Q q)⟩
theorem pt_imp {e : Expr} {t t' : TT} (h : PT X e t) (hi : ∀ σ H Q, t' σ H Q → t σ H Q) : PT X e t' := ⟨fun pins s σ H Q I q => h.run pins s σ H Q I (hi σ H Q q)⟩
theorem pw_imp {e : Expr} {t t' : TT} (h : PW X e t) (hi : ∀ σ H Q, t' σ H Q → t σ H Q) : PW X e t' := ⟨fun wh pins s σ H Q I q => h.run wh pins s σ H Q I (hi σ H Q q)⟩
theorem pa_imp {e : List Expr} {t t' : TA} (h : PA X e t) (hi : ∀ σ H Q, t' σ H Q → t σ H Q) : PA X e t' := ⟨fun pos pins s σ H Q I q => h.run pos pins s σ H Q I (hi σ H Q q)⟩
theorem ps_imp {e : Stmt} {t t' : TS} (h : PS X e t) (hi : ∀ D σ H, t' D σ H → t D σ H) : PS X e t' := ⟨fun pins s σ H D I q => h.run pins s σ H D I (hi D σ H q)⟩
theorem pss_imp {e : List Stmt} {t t' : TS} (h : PSs X e t) (hi : ∀ D σ H, t' D σ H → t D σ H) : PSs X e t' := ⟨fun pins s σ H D I q => h.run pins s σ H D I (hi D σ H q)⟩

/-! ### names, constants -/
def dVar (i : Nat) : DE := fun env s R => match env[i]? with
  | some (some w) => R w s
  | _ => False
def dC (w : D) : DE := fun _ s R => R w s
theorem pd_var (i : Nat) {x : Str} {pos : Pos} (hN : X.N[i]? = some x := by rfl) (hv : Vis X.env.scope x := by first | exact Or.inl rfl | exact Or.inr (Or.inl rfl) | exact Or.inr (Or.inr rfl)) (hd : (x == ("__debug__" : Str)) = false := by decide)
    (hcd : (x == ("__classdict__" : Str)) = false := by decide) : PD X (.Name x pos) (dVar i) :=
  pe_imp (pe_var hN hv hd hcd) fun σ H Q ⟨env, s, R, h1, h2, h3, h4⟩ => by
    unfold dVar at h3
    split at h3
    · rename_i w e
      obtain ⟨v, a, b⟩ := h1.2 i w e
      exact ⟨v, a, h4 w s v H h3 (.refl _ _) h2 b⟩
    · exact h3.elim
/-- a constant that no heap is asked for -/
def flatD : D → Option V
  | .non => some .non
  | .bl b => some (.bl b)
  | .int i => some (.int i)
  | .str x => some (.str x)
  | .ref a => some (.ref a)
  | .ty n => some (.ty n)
  | _ => none
theorem flatD_rep {w : D} {v : V} (K : PySem.W.Frag) (H : Hp) (h : flatD w = some v) : Rep K H w v := by
  cases w <;> first | (cases h; rfl) | cases h
theorem pd_c {e : Expr} {w : D} {v : V} (h : PE X e (tC v)) (hf : flatD w = some v := by rfl) : PD X e (dC w) :=
  pe_imp h fun σ H Q ⟨env, s, R, h1, h2, h3, h4⟩ => h4 w s v H h3 (.refl _ _) h2 (flatD_rep _ _ hf)
theorem pd_int {i : Int} {j : Nat} {pos : Pos} : PD X (.Constant (.int i) j pos) (dC (.int i)) := pd_c pe_int
theorem pd_bl {b : Bool} {j : Nat} {pos : Pos} : PD X (.Constant (.bool b) j pos) (dC (.bl b)) := pd_c pe_bl
theorem pd_non {j : Nat} {pos : Pos} : PD X (.Constant .none j pos) (dC .non) := pd_c pe_non
theorem pd_str {x : Str} {j : Nat} {pos : Pos} : PD X (.Constant (.str x) j pos) (dC (.str x)) := pd_c pe_str
/-- a module's constant -/
theorem pd_glob {x : Str} {w : D} {v : V} {u : Value} {pos : Pos} (hg : Gl X x) (hm : X.mg x = some u) (r : RelV v u) (hf : flatD w = some v := by rfl) (hd : (x == ("__debug__" : Str)) = false := by decide) : PD X (.Name x pos) (dC w) := pd_c (pe_glob hg hm r hd) hf
/-- a built-in class by its name -/
theorem pd_ty {x : Str} {n : String} {pos : Pos} (hg : Gl X x) (hm : X.mg x = none) (hv : bootBuiltins x = some (.type n)) (hn : x ≠ "__name__" := by decide) (hd : (x == ("__debug__" : Str)) = false := by decide) : PD X (.Name x pos) (dC (.ty n)) :=
  pd_c (pe_bltn (v := .ty n) hg hm hv rfl hn hd)

/-! ### argument lists, tuples, lists -/
def dNil : DA := fun _ s R => R [] s
def dCons (t : DE) (u : DA) : DA := fun env s R => t env s fun x s1 => u env s1 fun xs s2 => R (x :: xs) s2
theorem pda_nil : PDA X [] dNil := pa_imp pa_nil fun σ H Q ⟨env, s, R, h1, h2, h3, h4⟩ => h4 [] s [] H h3 (.refl _ _) h2 rfl
theorem pda_cons {e : Expr} {es : List Expr} {t : DE} {u : DA} (h : PD X e t) (hr : PDA X es u) (hs : starEach (e :: es) X.env = (false, eval e X.env) :: starEach es X.env := by rfl) : PDA X (e :: es) (dCons t u) :=
  pa_imp (pa_cons h hr hs) fun σ H Q ⟨env, s, R, h1, h2, h3, h4⟩ => ⟨env, s, _, h1, h2, h3, fun w s1 v H1 q e1 m1 r1 => ⟨env, s1, _, h1.ext e1.ext, m1, q, fun ws s2 vs H2 q2 e2 m2 r2 =>
    h4 (w :: ws) s2 (v :: vs) H2 q2 (e1.trans e2) m2 ⟨v, vs, rfl, Rep.ext e2.ext _ _ r1, r2⟩⟩⟩
def dTup (t : DA) : DE := fun env s R => t env s fun ws s1 => ws.length ≤ 1000000 ∧ R (.tup ws) s1
theorem mil : (1000000 : Nat) ≤ sizeLine := by rw [sizeLine_eq]; decide
theorem pd_tup {es : List Expr} {t : DA} {k : Nat} {pos : Pos} (h : PDA X es t) : PD X (.Tuple es k pos) (dTup t) :=
  pe_imp (pe_tup h) fun σ H Q ⟨env, s, R, h1, h2, h3, h4⟩ => ⟨env, s, _, h1, h2, h3, fun ws s1 vs H1 ⟨l, q⟩ e1 m1 r1 => ⟨by rw [← r1.len]; exact Nat.le_trans l mil, fun p hp =>
    h4 (.tup ws) s1 (.ref p) _ q (e1.trans (.new hp)) (m1.new hp) ⟨p, vs, rfl, .of upd_same, Reps.ext (.new hp) _ _ r1⟩⟩⟩
/-- the empty tuple is one object -/
theorem pd_tup0 {k : Nat} {pos : Pos} : PD X (.Tuple [] k pos) (dC (.tup [])) :=
  pe_imp (pe_tup (X := X) pa_nil) fun σ H Q ⟨env, s, R, h1, h2, h3, h4⟩ => ⟨Nat.zero_le _, fun p hp => h4 (.tup []) s (.ref p) _ h3 (.new hp) (h2.new hp) ⟨p, [], rfl, .of upd_same, rfl⟩⟩
/-- a list that may change -/
def dLstM (t : DA) : DE := fun env s R => t env s fun ws s1 => ws.length ≤ 1000000 ∧ ∀ p, s1.M p = none → R (.ref p) (s1.put p (.lst ws))
theorem pd_lstM {es : List Expr} {t : DA} {pos : Pos} (h : PDA X es t) : PD X (.List es pos) (dLstM t) :=
  pe_imp (pe_lst h) fun σ H Q ⟨env, s, R, h1, h2, h3, h4⟩ => ⟨env, s, _, h1, h2, h3, fun ws s1 vs H1 ⟨l, q⟩ e1 m1 r1 => ⟨by rw [← r1.len]; exact Nat.le_trans l mil, fun p hp =>
    h4 (.ref p) _ (.ref p) _ (q p (m1.free hp)) (e1.trans (.put (.inl hp))) (m1.write (.inl hp) (fun _ => nofun) ⟨vs, upd_same, Reps.ext (.new hp) _ _ r1⟩) rfl⟩⟩

/-! ### a list is locked: from then on it is a value -/
theorem inv_freeze {pins : List (Addr × Obj)} {σ : L2.St} {H : Hp} {s : Shared} {a : Addr} {z : HO} (I : Inv X pins σ H s) (h : H a = some z) (hz : Mut (some z)) : ∃ o, Inv X pins σ (upd H a (.frz o z)) s := by
  have ok := I.hok a z h
  obtain ⟨o, ho⟩ : ∃ o, s.heap.get? a = some o := by
    have := ok.lt
    cases z with
    | lst xs => obtain ⟨_, _, _, _, e⟩ := ok; exact ⟨_, e⟩
    | dK kvs => obtain ⟨_, _, _, _, o, _, _, e, _⟩ := ok; exact ⟨_, e⟩
    | dT kvs => obtain ⟨_, _, _, _, o, _, _, e, _⟩ := ok; exact ⟨_, e⟩
    | set S n => obtain ⟨o, _, _, _, e, _⟩ := ok; exact ⟨_, e⟩
    | ins C dx fs => obtain ⟨_, _, _, e, _⟩ := ok; exact ⟨_, e⟩
    | ext φ => obtain ⟨_, ⟨o, e⟩, _⟩ := ok; exact ⟨_, e⟩
    | _ => exact hz.elim
  have nm : ∀ b u, H b = some u → ¬ Mut (some u) → b ≠ a := fun b u e n q => by subst q; rw [h] at e; cases e; exact n hz
  have own : ∀ b c, H b = some (.own c) → upd H a (.frz o z) b = some (.own c) := fun b c e => by rw [upd_ne (nm b _ e fun q => q)]; exact e
  have tup : ∀ b c, H b = some (.tup c) → upd H a (.frz o z) b = some (.tup c) := fun b c e => by rw [upd_ne (nm b _ e fun q => q)]; exact e
  have fre : ∀ b, H b = none → upd H a (.frz o z) b = none := fun b e => by rw [upd_ne (fun q => by subst q; rw [h] at e; cases e)]; exact e
  refine ⟨o, ⟨I.ok, I.os, I.bare, ?_, I.loc, I.cell, fre _ I.free, fun x c e => fre _ (I.freeC x c e), fun p hp => ?_, fun b u e => ?_, I.len⟩⟩
  · have u := I.base
    exact ⟨u.keep, u.slot, fun b ob q n x => fre b (u.free b ob q n x), u.there, fun b xs e => tup b xs (u.tups b xs e), fun b ob w e => by
      have e' := u.frzs b ob w e
      rw [upd_ne (nm b _ e' fun q => q)]; exact e', fun b ps e => by
      obtain ⟨m, e'⟩ := u.tbls b ps e
      exact ⟨m, by rw [upd_ne (nm b _ e' fun q => q)]; exact e'⟩⟩
  · obtain ⟨p1, p2, p3⟩ := I.pin p hp
    exact ⟨p1, fre _ p2, p3⟩
  · by_cases hb : b = a
    · subst hb
      rw [upd_same] at e
      cases e
      exact ⟨ho, ok.stay (fun _ _ _ q => q) (fun c q => own c _ q) fun c xs q => tup c xs q⟩
    · rw [upd_ne hb] at e
      exact (I.hok b u e).stay (fun _ _ _ q => q) (fun c q => own c _ q) fun c xs q => tup c xs q
def tFrz (t : TE) : TE := fun σ H Q => t σ H fun v H1 => ∃ a z, v = .ref a ∧ H1 a = some z ∧ Mut (some z) ∧ ∀ o, Q v (upd H1 a (.frz o z))
theorem pe_frz {e : Expr} {t : TE} (h : PE X e t) : PE X e (tFrz t) := ⟨fun pins s σ H Q I q => thn (h.run pins s σ H _ I q) fun u s' ⟨v, H1, I1, r, a, z, e1, e2, e3, k⟩ => by
  obtain ⟨o, I2⟩ := inv_freeze I1 e2 e3
  exact ⟨v, _, I2, r, k o⟩⟩
/-- a mutable list becomes a value -/
def dFrz (t : DE) : DE := fun env s R => t env s fun w s1 => match w with
  | .ref a => (match s1.M a with
    | some (.lst ws) => R (.lst ws) (s1.del a)
    | some (.dic ks ws) => R (.dic ks ws) (s1.del a)
    | _ => False)
  | _ => False
theorem mrep_del {K : PySem.W.Frag} {H : Hp} {s : Sg} {a : Addr} {o : Obj} {z : HO} {mo : MO} (m : MRep K H s) (h : s.M a = some mo) (hz : H a = some z) : MRep K (upd H a (.frz o z)) (s.del a) := by
  have mu := (m.at_ a _ h).mut
  have ex : Ext H (upd H a (.frz o z)) := .put mu
  have na : ∀ b ∈ s.pv, b ≠ a := fun b hb e => by subst e; rw [(m.pvs b hb).2] at h; cases h
  refine ⟨fun b u e => ?_, fun b c I J e1 e2 => ?_, fun b hb => ?_⟩
  · have nb' : b ≠ a := fun q => by subst q; rw [show (s.del b).M b = none from Mm.del_same] at e; cases e
    have e' : s.M b = some u := by rw [← e]; exact (Mm.del_ne nb').symm
    have q := m.at_ b u e'
    cases u with
    | lst ws => obtain ⟨vs, z1, z2⟩ := q; exact ⟨vs, by rw [upd_ne nb']; exact z1, Reps.ext ex _ _ z2⟩
    | dic ks ws => obtain ⟨vs, z1, z2, z3⟩ := q; exact ⟨vs, by rw [upd_ne nb']; exact z1, z2, Reps.ext ex _ _ z3⟩
    | ins C ns ws => obtain ⟨dx, vs, z1, z2, z3⟩ := q; exact ⟨dx, vs, by rw [upd_ne nb']; exact z1, z2, Reps.ext ex _ _ z3⟩
    | box I =>
      obtain ⟨st, vs, z0, z1, z2, z3⟩ := q
      exact ⟨st, vs, z0, by rw [upd_ne nb']; exact z1, z2.keep fun c hc => upd_ne (na c hc), z3⟩
  · have nb1 : b ≠ a := fun q => by subst q; rw [show (s.del b).M b = none from Mm.del_same] at e1; cases e1
    have nb2 : c ≠ a := fun q => by subst q; rw [show (s.del c).M c = none from Mm.del_same] at e2; cases e2
    rw [show (s.del a).M b = s.M b from Mm.del_ne nb1] at e1
    rw [show (s.del a).M c = s.M c from Mm.del_ne nb2] at e2
    exact m.one b c I J e1 e2
  · exact ⟨by rw [upd_ne (na b hb)]; exact (m.pvs b hb).1, (Mm.del_ne (na b hb)).trans (m.pvs b hb).2⟩
theorem pd_frz {e : Expr} {t : DE} (h : PD X e t) : PD X e (dFrz t) :=
  pe_imp (pe_frz h) fun σ H Q ⟨env, s, R, h1, h2, h3, h4⟩ => ⟨env, s, _, h1, h2, h3, fun w s1 v H1 q e1 m1 r1 => by
    cases w with
    | ref a =>
      cases (show v = .ref a from r1)
      dsimp only at q
      cases hm : s1.M a with
      | none => rw [hm] at q; exact q.elim
      | some mo =>
        rw [hm] at q
        cases mo with
        | lst ws =>
          obtain ⟨vs, z1, z2⟩ := m1.at_ a _ hm
          have ex : ∀ o, Ext H1 (upd H1 a (.frz o (.lst vs))) := fun o => .put (by rw [z1]; trivial)
          exact ⟨a, _, rfl, z1, trivial, fun o => h4 (.lst ws) _ _ _ q (e1.trans (.del (by rw [z1]; trivial) (by rw [hm]; simp))) (mrep_del m1 hm z1) ⟨a, vs, rfl, .inl (.inr ⟨o, fz_frz upd_same⟩), Reps.ext (ex o) _ _ z2⟩⟩
        | dic ks ws =>
          obtain ⟨vs, z1, z3, z2⟩ := m1.at_ a _ hm
          have ex : ∀ o, Ext H1 (upd H1 a (.frz o (.dK (ks.zip vs)))) := fun o => .put (by rw [z1]; trivial)
          exact ⟨a, _, rfl, z1, trivial, fun o => h4 (.dic ks ws) _ _ _ q (e1.trans (.del (by rw [z1]; trivial) (by rw [hm]; simp))) (mrep_del m1 hm z1) ⟨a, vs, o, rfl, upd_same, z3, Reps.ext (ex o) _ _ z2⟩⟩
        | ins C ns ws => exact q.elim
        | box I => exact q.elim
    | _ => exact q.elim⟩
/-- a list that is made and never changed -/
def dLst (t : DA) : DE := fun env s R => t env s fun ws s1 => ws.length ≤ 1000000 ∧ R (.lst ws) s1
theorem pd_lst {es : List Expr} {t : DA} {pos : Pos} (h : PDA X es t) : PD X (.List es pos) (dLst t) :=
  pe_imp (pe_frz (pe_lst h)) fun σ H Q ⟨env, s, R, h1, h2, h3, h4⟩ => ⟨env, s, _, h1, h2, h3, fun ws s1 vs H1 ⟨l, q⟩ e1 m1 r1 => ⟨by rw [← r1.len]; exact Nat.le_trans l mil, fun p hp =>
    ⟨p, _, rfl, upd_same, trivial, fun o => by
      rw [upd_upd]
      exact h4 (.lst ws) s1 (.ref p) _ q (e1.trans (.new hp)) (m1.new hp) ⟨p, vs, rfl, .inl (.inr ⟨o, fz_frz upd_same⟩), Reps.ext (.new hp) _ _ r1⟩⟩⟩⟩
end
end Dz
namespace Dz
open PySem PySem.Spec PyProof.Rows L2

/-! ### sequences, whether they may change or not -/
def asL (s : Sg) : D → Option (List D)
  | .lst ws => some ws
  | .ref a => (match s.M a with
    | some (.lst ws) => some ws
    | _ => none)
  | _ => none
def asT : D → Option (List D)
  | .tup ws => some ws
  | _ => none
def asQ (s : Sg) : D → Option (List D)
  | .tup ws => some ws
  | w => asL s w
theorem asL_sq {K : PySem.W.Frag} {H : Hp} {s : Sg} {w : D} {v : V} {ws : List D} (h : asL s w = some ws) (r : Rep K H w v) (m : MRep K H s) : ∃ a vs, v = .ref a ∧ SqL K H a vs ∧ Reps K H ws vs := by
  cases w with
  | lst us =>
    cases h
    obtain ⟨a, vs, e, f, q⟩ := r
    exact ⟨a, vs, e, f.sq, q⟩
  | ref a =>
    dsimp only [asL] at h
    cases hm : s.M a with
    | none => rw [hm] at h; cases h
    | some o =>
      rw [hm] at h
      cases o with
      | lst us =>
        cases h
        obtain ⟨vs, e, q⟩ := m.at_ a _ hm
        exact ⟨a, vs, r, .of e, q⟩
      | _ => cases h
  | _ => cases h
theorem asQ_sq {K : PySem.W.Frag} {H : Hp} {s : Sg} {w : D} {v : V} {ws : List D} (h : asQ s w = some ws) (r : Rep K H w v) (m : MRep K H s) : ∃ a vs, v = .ref a ∧ (SqL K H a vs ∨ SqT K H a vs) ∧ Reps K H ws vs := by
  cases w with
  | tup us =>
    cases h
    obtain ⟨a, vs, e, f, q⟩ := r
    exact ⟨a, vs, e, .inr f, q⟩
  | _ =>
    obtain ⟨a, vs, e, f, q⟩ := asL_sq (s := s) (ws := ws) (by simpa only [asQ] using h) r m
    exact ⟨a, vs, e, .inl f, q⟩
theorem asT_sq {K : PySem.W.Frag} {H : Hp} {w : D} {v : V} {ws : List D} (h : asT w = some ws) (r : Rep K H w v) : ∃ a vs, v = .ref a ∧ SqT K H a vs ∧ Reps K H ws vs := by
  cases w with
  | tup us => cases h; exact r
  | _ => cases h

/-! ### value relations, lifted -/
abbrev D1 := D → Sg → KD → Prop
abbrev D2 := D → D → Sg → KD → Prop
abbrev DL := List D → Sg → KD → Prop
def lift1 (K : PySem.W.Frag) (r : D1) : V → Hp → VK → Prop := fun x H Q => ∃ w s R, Rep K H w x ∧ MRep K H s ∧ r w s R ∧ Post K H s R Q
def lift2 (K : PySem.W.Frag) (r : D2) : R2 := fun x y H Q => ∃ w u s R, Rep K H w x ∧ Rep K H u y ∧ MRep K H s ∧ r w u s R ∧ Post K H s R Q
def liftL (K : PySem.W.Frag) (r : DL) : List V → Hp → VK → Prop := fun xs H Q => ∃ ws s R, Reps K H ws xs ∧ MRep K H s ∧ r ws s R ∧ Post K H s R Q
def dUn (r : D1) (ta : DE) : DE := fun env s R => ta env s fun x s1 => r x s1 R
def dOp (r : D2) (ta tb : DE) : DE := fun env s R => ta env s fun x s1 => tb env s1 fun y s2 => r x y s2 R
def dCB (r : DL) (ta : DA) : DE := fun env s R => ta env s fun xs s1 => r xs s1 R
section
variable {X : Cx} {pos : Pos} {a b : Expr} {ta tb : DE} {r : D2}
theorem op_imp {f : Value → Value → Sem Value} {r r' : R2} (h : OpR X f r) (hi : ∀ x y H Q, r' x y H Q → r x y H Q) : OpR X f r' := fun pins s σ H x y v u Q I rx ry q => h pins s σ H x y v u Q I rx ry (hi x y H Q q)
theorem dOp_imp (K : PySem.W.Frag) (r : D2) (ta tb : DE) : ∀ σ H Q, liftE K (dOp r ta tb) σ H Q → tOp (lift2 K r) (liftE K ta) (liftE K tb) σ H Q := fun σ H Q ⟨env, s, R, h1, h2, h3, h4⟩ =>
  ⟨env, s, _, h1, h2, h3, fun x s1 v H1 q e1 m1 r1 => ⟨env, s1, _, h1.ext e1.ext, m1, q, fun y s2 u H2 q2 e2 m2 r2 => ⟨x, y, s2, R, Rep.ext e2.ext _ _ r1, r2, m2, q2, h4.ext (e1.trans e2)⟩⟩⟩
theorem pd_op {op : Operator} (ho : OpR X (binaryOp op) (lift2 X.K r)) (ha : PD X a ta) (hb : PD X b tb) : PD X (.BinOp a op b pos) (dOp r ta tb) := pe_imp (pe_op ho ha hb) (dOp_imp X.K r ta tb)
theorem pd_cmp {op : CmpOp} (ho : OpR X (compareOp op) (lift2 X.K r)) (ha : PD X a ta) (hb : PD X b tb) (hm : behindInMarks op b = false) : PD X (.Compare a [op] [b] pos) (dOp r ta tb) := pe_imp (pe_cmpR ho ha hb hm) (dOp_imp X.K r ta tb)
/-- a test by a value that is a bool -/
def dB (t : DE) : DT := fun env s R => t env s fun w s1 => match w with
  | .bl b => R b s1
  | _ => False
theorem pdt_val {e : Expr} {t : DE} (h : PD X e t) (he : ∀ whole, isTrue e X.env whole = (do let v ← whole; standAt e.pos; holding [v] (truthy v)) := by intro _; rfl) : PDT X e (dB t) :=
  pt_imp (pt_val h he) fun σ H Q ⟨env, s, R, h1, h2, h3, h4⟩ => ⟨env, s, _, h1, h2, h3, fun w s1 v H1 q e1 m1 r1 => by
    cases w with
    | bl b => exact ⟨b, r1, h4 b s1 H1 q e1 m1⟩
    | _ => exact q.elim⟩
theorem pdt_cmp {op : CmpOp} (ho : OpR X (compareOp op) (lift2 X.K r)) (ha : PD X a ta) (hb : PD X b tb) (hm : behindInMarks op b = false) : PDT X (.Compare a [op] [b] pos) (dB (dOp r ta tb)) :=
  pt_imp (pt_cmpR ho ha hb hm) fun σ H Q ⟨env, s, R, h1, h2, h3, h4⟩ => dOp_imp X.K r ta tb σ H _ ⟨env, s, _, h1, h2, h3, fun w s1 v H1 q e1 m1 r1 => by
    cases w with
    | bl b => exact ⟨b, r1, h4 b s1 H1 q e1 m1⟩
    | _ => exact q.elim⟩
/-- not, and, or in tests -/
def dNot (t : DT) : DT := fun env s R => t env s fun c s1 => R (!c) s1
def dAnd (t u : DT) : DT := fun env s R => t env s fun c s1 => if c = true then u env s1 R else R false s1
def dOr (t u : DT) : DT := fun env s R => t env s fun c s1 => if c = true then R true s1 else u env s1 R
theorem pdt_not {e : Expr} {t : DT} (h : PDT X e t) : PDT X (.UnaryOp .Not e pos) (dNot t) :=
  pt_imp (pt_not h) fun σ H Q ⟨env, s, R, h1, h2, h3, h4⟩ => ⟨env, s, _, h1, h2, h3, fun c s1 H1 q e1 m1 => h4 (!c) s1 H1 q e1 m1⟩
theorem pdw_and1 {t : DT} (h : PDT X a t) : PDW X (.BoolOp .And [a] pos) t := pw_and1 h
theorem pdw_or1 {t : DT} (h : PDT X a t) : PDW X (.BoolOp .Or [a] pos) t := pw_or1 h
theorem pdw_and {rest : List Expr} {t u : DT} (h : PDT X a t) (hb : PDW X (.BoolOp .And (b :: rest) pos) u) : PDW X (.BoolOp .And (a :: b :: rest) pos) (dAnd t u) :=
  pw_imp (pw_and h hb) fun σ H Q ⟨env, s, R, h1, h2, h3, h4⟩ => ⟨env, s, _, h1, h2, h3, fun c s1 H1 q e1 m1 => by
    cases c with
    | true => rw [if_pos rfl] at q ⊢; exact ⟨env, s1, R, h1.ext e1.ext, m1, q, h4.ext e1⟩
    | false => rw [if_neg Bool.false_ne_true] at q ⊢; exact h4 false s1 H1 q e1 m1⟩
theorem pdw_or {rest : List Expr} {t u : DT} (h : PDT X a t) (hb : PDW X (.BoolOp .Or (b :: rest) pos) u) : PDW X (.BoolOp .Or (a :: b :: rest) pos) (dOr t u) :=
  pw_imp (pw_or h hb) fun σ H Q ⟨env, s, R, h1, h2, h3, h4⟩ => ⟨env, s, _, h1, h2, h3, fun c s1 H1 q e1 m1 => by
    cases c with
    | true => rw [if_pos rfl] at q ⊢; exact h4 true s1 H1 q e1 m1
    | false => rw [if_neg Bool.false_ne_true] at q ⊢; exact ⟨env, s1, R, h1.ext e1.ext, m1, q, h4.ext e1⟩⟩
theorem pdw_t {e : Expr} {t : DT} (h : PDW X e t) : PDT X e t := h.pt
/-- and, or, not as values of bools -/
def dAndV (t u : DE) : DE := fun env s R => t env s fun w s1 => match w with
  | .bl c => if c = true then u env s1 R else R (.bl false) s1
  | _ => False
def dOrV (t u : DE) : DE := fun env s R => t env s fun w s1 => match w with
  | .bl c => if c = true then R (.bl true) s1 else u env s1 R
  | _ => False
def dNotV (t : DE) : DE := fun env s R => t env s fun w s1 => match w with
  | .bl c => R (.bl (!c)) s1
  | _ => False
theorem pd_one {op} {t : DE} (h : PD X a t) : PD X (.BoolOp op [a] pos) t := pe_one h
theorem pd_and {rest : List Expr} (ha : PD X a ta) (hb : PD X (.BoolOp .And (b :: rest) pos) tb) : PD X (.BoolOp .And (a :: b :: rest) pos) (dAndV ta tb) :=
  pe_imp (pe_and ha hb) fun σ H Q ⟨env, s, R, h1, h2, h3, h4⟩ => ⟨env, s, _, h1, h2, h3, fun w s1 v H1 q e1 m1 r1 => by
    cases w with
    | bl c =>
      refine ⟨c, r1, ?_⟩
      dsimp only at q
      cases c with
      | true => rw [if_pos rfl] at q ⊢; exact ⟨env, s1, R, h1.ext e1.ext, m1, q, h4.ext e1⟩
      | false => rw [if_neg Bool.false_ne_true] at q ⊢; exact h4 (.bl false) s1 _ H1 q e1 m1 rfl
    | _ => exact q.elim⟩
theorem pd_or {rest : List Expr} (ha : PD X a ta) (hb : PD X (.BoolOp .Or (b :: rest) pos) tb) : PD X (.BoolOp .Or (a :: b :: rest) pos) (dOrV ta tb) :=
  pe_imp (pe_or ha hb) fun σ H Q ⟨env, s, R, h1, h2, h3, h4⟩ => ⟨env, s, _, h1, h2, h3, fun w s1 v H1 q e1 m1 r1 => by
    cases w with
    | bl c =>
      refine ⟨c, r1, ?_⟩
      dsimp only at q
      cases c with
      | true => rw [if_pos rfl] at q ⊢; exact h4 (.bl true) s1 _ H1 q e1 m1 rfl
      | false => rw [if_neg Bool.false_ne_true] at q ⊢; exact ⟨env, s1, R, h1.ext e1.ext, m1, q, h4.ext e1⟩
    | _ => exact q.elim⟩
theorem pd_not (ha : PD X a ta) : PD X (.UnaryOp .Not a pos) (dNotV ta) :=
  pe_imp (pe_not ha) fun σ H Q ⟨env, s, R, h1, h2, h3, h4⟩ => ⟨env, s, _, h1, h2, h3, fun w s1 v H1 q e1 m1 r1 => by
    cases w with
    | bl c => exact ⟨c, r1, h4 (.bl (!c)) s1 _ H1 q e1 m1 rfl⟩
    | _ => exact q.elim⟩
def dIfE (t : DT) (ta tb : DE) : DE := fun env s R => t env s fun c s1 => if c = true then ta env s1 R else tb env s1 R
theorem pd_ifExp {c : Expr} {t : DT} (hc : PDT X c t) (ha : PD X a ta) (hb : PD X b tb) : PD X (.IfExp c a b pos) (dIfE t ta tb) :=
  pe_imp (pe_ifExp hc ha hb) fun σ H Q ⟨env, s, R, h1, h2, h3, h4⟩ => ⟨env, s, _, h1, h2, h3, fun c s1 H1 q e1 m1 => by
    cases c with
    | true => rw [if_pos rfl] at q ⊢; exact ⟨env, s1, R, h1.ext e1.ext, m1, q, h4.ext e1⟩
    | false => rw [if_neg Bool.false_ne_true] at q ⊢; exact ⟨env, s1, R, h1.ext e1.ext, m1, q, h4.ext e1⟩⟩
end

/-! ### a new list -/
def tNew (ta : TA) : TE := fun σ H Q => ta σ H fun vs H1 => ∀ p, H1 p = none → Q (.ref p) (upd H1 p (.lst vs))
abbrev PNL (X : Cx) (e : Expr) (t : DA) : Prop := PE X e (tNew (liftA X.K t))
def dF (t : DA) : DE := fun env s R => t env s fun ws s1 => R (.lst ws) s1
def dM (t : DA) : DE := fun env s R => t env s fun ws s1 => ∀ p, s1.M p = none → R (.ref p) (s1.put p (.lst ws))
section
variable {X : Cx} {pos : Pos} {e : Expr} {t : DA}
theorem pd_F (h : PNL X e t) : PD X e (dF t) :=
  pe_imp (pe_frz h) fun σ H Q ⟨env, s, R, h1, h2, h3, h4⟩ => ⟨env, s, _, h1, h2, h3, fun ws s1 vs H1 q e1 m1 r1 p hp => ⟨p, _, rfl, upd_same, trivial, fun o => by
    rw [upd_upd]
    exact h4 (.lst ws) s1 (.ref p) _ q (e1.trans (.new hp)) (m1.new hp) ⟨p, vs, rfl, .inl (.inr ⟨o, fz_frz upd_same⟩), Reps.ext (.new hp) _ _ r1⟩⟩⟩
theorem pd_M (h : PNL X e t) : PD X e (dM t) :=
  pe_imp h fun σ H Q ⟨env, s, R, h1, h2, h3, h4⟩ => ⟨env, s, _, h1, h2, h3, fun ws s1 vs H1 q e1 m1 r1 p hp =>
    h4 (.ref p) _ (.ref p) _ (q p (m1.free hp)) (e1.trans (.put (.inl hp))) (m1.write (.inl hp) (fun _ => nofun) ⟨vs, upd_same, Reps.ext (.new hp) _ _ r1⟩) rfl⟩
def dSz (t : DA) : DA := fun env s R => t env s fun ws s1 => ws.length ≤ 1000000 ∧ R ws s1
theorem nl_lst {es : List Expr} (h : PDA X es t) : PNL X (.List es pos) (dSz t) :=
  pe_imp (pe_lst h) fun σ H Q ⟨env, s, R, h1, h2, h3, h4⟩ => ⟨env, s, _, h1, h2, h3, fun ws s1 vs H1 ⟨l, q⟩ e1 m1 r1 => ⟨by rw [← r1.len]; exact Nat.le_trans l mil, fun p hp => h4 ws s1 vs H1 q e1 m1 r1 p hp⟩⟩
end

/-! ### deep data -/
mutual
def toPy : D → Option PyData
  | .non => some .none
  | .bl b => some (.bool b)
  | .int i => some (.int i)
  | .str x => some (.str x)
  | .tup ws => (toPys ws).map PyData.tuple
  | .lst ws => (toPys ws).map PyData.list
  | .dic _ _ => none
  | .ref _ => none
  | .ty _ => none
def toPys : List D → Option (List PyData)
  | [] => some []
  | w :: ws => (toPy w).bind fun d => (toPys ws).map fun ds => d :: ds
end
mutual
theorem Rep.dp {K : PySem.W.Frag} {H : Hp} : ∀ (w : D) (v : V) (d : PyData), toPy w = some d → Rep K H w v → Dp K H v d
  | .non, v, d, h, r => by cases h; cases (show v = .non from r); exact .non
  | .bl b, v, d, h, r => by cases h; cases (show v = .bl b from r); exact .bl b
  | .int i, v, d, h, r => by cases h; cases (show v = .int i from r); exact .int i
  | .str x, v, d, h, r => by cases h; cases (show v = .str x from r); exact .str x
  | .tup ws, v, d, h, r => by
    obtain ⟨a, vs, rfl, f, q⟩ := r
    unfold toPy at h
    obtain ⟨ds, e, rfl⟩ := Option.map_eq_some_iff.mp h
    exact .tup f (Reps.dp ws vs ds e q)
  | .lst ws, v, d, h, r => by
    obtain ⟨a, vs, rfl, f, q⟩ := r
    unfold toPy at h
    obtain ⟨ds, e, rfl⟩ := Option.map_eq_some_iff.mp h
    exact .lst f.sq (Reps.dp ws vs ds e q)
  | .dic _ _, v, d, h, r => by cases h
  | .ref _, v, d, h, r => by cases h
  | .ty _, v, d, h, r => by cases h
theorem Reps.dp {K : PySem.W.Frag} {H : Hp} : ∀ (ws : List D) (vs : List V) (ds : List PyData), toPys ws = some ds → Reps K H ws vs → DpAll K H vs ds
  | [], vs, ds, h, r => by cases h; cases (show vs = [] from r); exact .nil
  | w :: ws, vs, ds, h, r => by
    obtain ⟨v, q, rfl, r1, r2⟩ := r
    unfold toPys at h
    obtain ⟨d, e1, h⟩ := Option.bind_eq_some_iff.mp h
    obtain ⟨es, e2, rfl⟩ := Option.map_eq_some_iff.mp h
    exact .cons (Rep.dp w v d e1 r1) (Reps.dp ws q es e2 r2)
end
def pyOf (s : Sg) : D → Option PyData
  | .ref a => (match s.M a with
    | some (.lst ws) => (toPys ws).map PyData.list
    | _ => none)
  | w => toPy w
theorem pyOf_dp {K : PySem.W.Frag} {H : Hp} {s : Sg} {w : D} {v : V} {d : PyData} (h : pyOf s w = some d) (r : Rep K H w v) (m : MRep K H s) : Dp K H v d := by
  cases w with
  | ref a =>
    dsimp only [pyOf] at h
    cases hm : s.M a with
    | none => rw [hm] at h; cases h
    | some o =>
      rw [hm] at h
      cases o with
      | lst us =>
        obtain ⟨ds, e, rfl⟩ := Option.map_eq_some_iff.mp h
        obtain ⟨vs, e1, q⟩ := m.at_ a _ hm
        cases (show v = .ref a from r)
        exact .lst (.of e1) (Reps.dp us vs ds e q)
      | _ => cases h
  | _ => exact Rep.dp _ v d h r

/-! ### operators -/
section
variable {X : Cx}
/-- a + b -/
def rAdd : D2 := fun x y s R => match x, y with
  | .int i, .int j => R (.int (i + j)) s
  | .str a, .str b => a.length + b.length ≤ 1000000 ∧ R (.str (a ++ b)) s
  | .tup a, .tup b => a.length + b.length ≤ 1000000 ∧ R (.tup (a ++ b)) s
  | _, _ => False
theorem od_add : OpR X (binaryOp .Add) (lift2 X.K rAdd) := by
  refine op_imp ((op_add.or op_add_str).or op_catA) fun x y H Q ⟨w, u, s, R, r1, r2, m, h, p⟩ => ?_
  unfold rAdd at h
  split at h
  · rename_i i j
    exact .inl (.inl ⟨i, j, r1, r2, p _ _ _ _ h (.refl _ _) m rfl⟩)
  · rename_i a b
    exact .inl (.inr ⟨a, b, r1, r2, Nat.le_trans h.1 mil, p _ _ _ _ h.2 (.refl _ _) m rfl⟩)
  · rename_i ws us
    obtain ⟨a, vs, rfl, f1, q1⟩ := r1
    obtain ⟨b, ts, rfl, f2, q2⟩ := r2
    have hl : vs.length + ts.length ≤ sizeLine := by rw [← q1.len, ← q2.len]; exact Nat.le_trans h.1 mil
    refine .inr ⟨a, b, vs, ts, rfl, rfl, f1, f2, hl, fun e => ?_, fun _ e => ?_, fun _ _ q hq => ?_⟩
    · subst e
      have e0 : ws = [] := List.length_eq_zero_iff.mp q1.len
      subst e0
      exact p _ _ _ _ h.2 (.refl _ _) m ⟨b, ts, rfl, f2, q2⟩
    · subst e
      have e0 : us = [] := List.length_eq_zero_iff.mp q2.len
      subst e0
      exact p _ _ _ _ h.2 (.refl _ _) m ⟨a, vs, rfl, f1, by rw [List.append_nil]; exact q1⟩
    · exact p _ _ _ _ h.2 (.new hq) (m.new hq) ⟨q, vs ++ ts, rfl, .of upd_same, Reps.ext (.new hq) _ _ (q1.append q2)⟩
  · exact h.elim
/-- lists: a + b, a new list -/
def rCatS (K : PySem.W.Frag) : R2 := fun x y H Q => ∃ l b xs zs, x = .ref l ∧ y = .ref b ∧ SqL K H l xs ∧ SqL K H b zs ∧ xs.length + zs.length ≤ sizeLine ∧ ∀ p, H p = none → Q (.ref p) (upd H p (.lst (xs ++ zs)))
theorem op_catS : OpR X (binaryOp .Add) (rCatS X.K) := by
  intro pins s σ H x y v u Q I rx ry h
  obtain ⟨l, b, xs, zs, rfl, rfl, hl, hb, hz, q⟩ := h
  cases rx
  cases ry
  obtain ⟨its, r1, ⟨⟨c1, d1, t1, s1⟩, n1, e1, k1, k2, k3⟩, z1⟩ := I.list hl
  obtain ⟨jts, r2, ⟨⟨c2, d2, t2, s2⟩, n2, e2, j1, j2, j3⟩, z2⟩ := I.list hb
  simp only at k1 k2 k3 j1 j2 j3
  subst k1 k2 k3 j1 j2 j3
  have le : its.toArray.size + jts.toArray.size ≤ sizeLine := by rw [List.size_toArray, List.size_toArray, ← r1.length, ← r2.length]; exact hz
  refine concat_meets ⟨_, e1, rfl⟩ ⟨_, e2, rfl⟩ noFill_list_add seq_list_add PySem.F.slot_list_add PySem.F.entry_list_add (PySem.F.args_list_add_2 _ _) (list_addW l b its.toArray jts.toArray n1 n2 none none s1 s2 le) ⟨e1, e2, ?_⟩
  rw [show its.toArray ++ jts.toArray = (its ++ jts).toArray by simp]
  exact ⟨.ref _, _, I.lnew (t' := s.toks) (r1.append r2) (by rw [List.length_append]; exact hz), rfl, q _ I.fresh⟩
def dCat (ta tb : DE) : DA := fun env s R => ta env s fun x s1 => tb env s1 fun y s2 => match asL s2 x, asL s2 y with
  | some a, some b => a.length + b.length ≤ 1000000 ∧ R (a ++ b) s2
  | _, _ => False
theorem nl_cat {a b : Expr} {ta tb : DE} {pos : Pos} (ha : PD X a ta) (hb : PD X b tb) : PNL X (.BinOp a .Add b pos) (dCat ta tb) :=
  pe_imp (pe_op op_catS ha hb) fun σ H Q ⟨env, s, R, h1, h2, h3, h4⟩ => ⟨env, s, _, h1, h2, h3, fun x s1 v H1 q e1 m1 r1 => ⟨env, s1, _, h1.ext e1.ext, m1, q, fun y s2 u H2 q2 e2 m2 r2 => by
    split at q2
    · rename_i as bs ea eb
      obtain ⟨l, vs, rfl, f1, g1⟩ := asL_sq ea (Rep.ext e2.ext _ _ r1) m2
      obtain ⟨l2, ts, rfl, f2, g2⟩ := asL_sq eb r2 m2
      exact ⟨l, l2, vs, ts, rfl, rfl, f1, f2, by rw [← g1.len, ← g2.len]; exact Nat.le_trans q2.1 mil, fun p hp => h4 (as ++ bs) s2 (vs ++ ts) H2 q2.2 (e1.trans e2) m2 (g1.append g2) p hp⟩
    · exact q2.elim⟩⟩
/-- ints -/
def rI (C : Int → Int → Prop) (g : Int → Int → Int) : D2 := fun x y s R => match x, y with
  | .int i, .int j => C i j ∧ R (.int (g i j)) s
  | _, _ => False
theorem od_I {f : Value → Value → Sem Value} {C : Int → Int → Prop} {g : Int → Int → Int} (h : OpR X f (L2.rI C fun i j => .int (g i j))) : OpR X f (lift2 X.K (rI C g)) :=
  op_imp h fun x y H Q ⟨w, u, s, R, r1, r2, m, h, p⟩ => by
    unfold rI at h
    split at h
    · rename_i i j
      exact ⟨i, j, r1, r2, h.1, p _ _ _ _ h.2 (.refl _ _) m rfl⟩
    · exact h.elim
theorem od_I0 {f : Value → Value → Sem Value} {g : Int → Int → Int} (h : OpR X f (L2.rI0 fun i j => .int (g i j))) : OpR X f (lift2 X.K (rI (fun _ _ => True) g)) :=
  op_imp h fun x y H Q ⟨w, u, s, R, r1, r2, m, h, p⟩ => by
    unfold rI at h
    split at h
    · rename_i i j
      exact ⟨i, j, r1, r2, p _ _ _ _ h.2 (.refl _ _) m rfl⟩
    · exact h.elim
theorem od_sub : OpR X (binaryOp .Sub) (lift2 X.K (rI (fun _ _ => True) fun i j => i - j)) := od_I0 op_sub
theorem od_mul : OpR X (binaryOp .Mult) (lift2 X.K (rI CMul fun i j => i * j)) := od_I op_mul
theorem od_fdiv : OpR X (binaryOp .FloorDiv) (lift2 X.K (rI CDiv fun i j => i / j)) := od_I op_fdiv
theorem od_mod : OpR X (binaryOp .Mod) (lift2 X.K (rI (fun _ j => 0 < j) fun i j => i % j)) := od_I op_mod
theorem od_pow : OpR X (binaryOp .Pow) (lift2 X.K (rI CPow fun i j => i ^ j.toNat)) := od_I op_pow
/-- xs * k: xs a list that may change -/
def dRep (ta tb : DE) : DA := fun env s R => ta env s fun x s1 => tb env s1 fun y s2 => match x, y with
  | .ref l, .int k => (match s2.M l with
    | some (.lst ws) => -1000000 ≤ k ∧ k ≤ 1000000 ∧ ws.length * k.toNat ≤ 1000000 ∧ R (List.replicate k.toNat ws).flatten (s2.del l)
    | _ => False)
  | _, _ => False
theorem Reps.rep {K : PySem.W.Frag} {H : Hp} {ws : List D} {vs : List V} (h : Reps K H ws vs) : ∀ k : Nat, Reps K H (List.replicate k ws).flatten (List.replicate k vs).flatten
  | 0 => rfl
  | k + 1 => by rw [List.replicate_succ, List.replicate_succ, List.flatten_cons, List.flatten_cons]; exact h.append (Reps.rep h k)
theorem nl_rep {a b : Expr} {ta tb : DE} {pos : Pos} (ha : PD X a ta) (hb : PD X b tb) : PNL X (.BinOp a .Mult b pos) (dRep ta tb) :=
  pe_imp (pe_op op_rep ha hb) fun σ H Q ⟨env, s, R, h1, h2, h3, h4⟩ => ⟨env, s, _, h1, h2, h3, fun x s1 v H1 q e1 m1 r1 => ⟨env, s1, _, h1.ext e1.ext, m1, q, fun y s2 u H2 q2 e2 m2 r2 => by
    split at q2
    · rename_i l k
      cases (show v = .ref l from r1)
      cases (show u = .int k from r2)
      cases hm : s2.M l with
      | none => rw [hm] at q2; exact q2.elim
      | some o =>
        rw [hm] at q2
        cases o with
        | lst ws =>
          obtain ⟨vs, z1, z2⟩ := m2.at_ l _ hm
          obtain ⟨c1, c2, c3, c4⟩ := q2
          refine ⟨l, k, vs, rfl, rfl, z1, by omega, by omega, by rw [← z2.len]; exact Nat.le_trans c3 mil, fun p hp => h4 _ _ _ H2 c4 ((e1.trans e2).trans (.weak (fun b u e => ?_) rfl)) (m2.weak (fun b u e => ?_) (Nat.le_refl _) rfl) (z2.rep _) p hp⟩
          all_goals
            by_cases hb : b = l
            · subst hb; rw [show (s2.del b).M b = none from Mm.del_same] at e; cases e
            · rw [show (s2.del l).M b = s2.M b from Mm.del_ne hb] at e; exact e
        | _ => exact q2.elim
    · exact q2.elim⟩⟩

/-! ### comparisons -/
def rCmp (pi : Int → Int → Bool) (ps : List Nat → List Nat → Bool) : D2 := fun x y s R => match x, y with
  | .int i, .int j => R (.bl (pi i j)) s
  | .str a, .str b => R (.bl (ps a.cps.toList b.cps.toList)) s
  | _, _ => False
theorem od_lt : OpR X (compareOp .Lt) (lift2 X.K (rCmp (fun i j => decide (i < j)) fun a b => decide (a < b))) := by
  refine op_imp (op_lt.or op_lt_str) fun x y H Q ⟨w, u, s, R, r1, r2, m, h, p⟩ => ?_
  unfold rCmp at h
  split at h
  · exact .inl ⟨_, _, r1, r2, p _ _ _ _ h (.refl _ _) m rfl⟩
  · exact .inr ⟨_, _, r1, r2, p _ _ _ _ h (.refl _ _) m rfl⟩
  · exact h.elim
theorem od_le : OpR X (compareOp .LtE) (lift2 X.K (rCmp (fun i j => decide (i ≤ j)) fun a b => !decide (b < a))) := by
  refine op_imp (op_le.or op_le_str) fun x y H Q ⟨w, u, s, R, r1, r2, m, h, p⟩ => ?_
  unfold rCmp at h
  split at h
  · exact .inl ⟨_, _, r1, r2, p _ _ _ _ h (.refl _ _) m rfl⟩
  · exact .inr ⟨_, _, r1, r2, p _ _ _ _ h (.refl _ _) m rfl⟩
  · exact h.elim
theorem od_gt : OpR X (compareOp .Gt) (lift2 X.K (rCmp (fun i j => decide (j < i)) fun a b => decide (b < a))) := by
  refine op_imp (op_gt.or op_gt_str) fun x y H Q ⟨w, u, s, R, r1, r2, m, h, p⟩ => ?_
  unfold rCmp at h
  split at h
  · exact .inl ⟨_, _, r1, r2, p _ _ _ _ h (.refl _ _) m rfl⟩
  · exact .inr ⟨_, _, r1, r2, p _ _ _ _ h (.refl _ _) m rfl⟩
  · exact h.elim
theorem od_ge : OpR X (compareOp .GtE) (lift2 X.K (rCmp (fun i j => decide (j ≤ i)) fun a b => !decide (a < b))) := by
  refine op_imp (op_ge.or op_ge_str) fun x y H Q ⟨w, u, s, R, r1, r2, m, h, p⟩ => ?_
  unfold rCmp at h
  split at h
  · exact .inl ⟨_, _, r1, r2, p _ _ _ _ h (.refl _ _) m rfl⟩
  · exact .inr ⟨_, _, r1, r2, p _ _ _ _ h (.refl _ _) m rfl⟩
  · exact h.elim
/-- == of deep data; of two ints, two texts, two bools plainly -/
def rEqv (g : Bool → Bool) : D2 := fun x y s R => match x, y with
  | .int i, .int j => R (.bl (g (decide (i = j)))) s
  | .str i, .str j => R (.bl (g (decide (i = j)))) s
  | .bl i, .bl j => R (.bl (g (decide (i = j)))) s
  | x, y => (match pyOf s x, pyOf s y with
    | some d, some e => SeqAt.shaped d = true ∧ SeqAt.shaped e = true ∧ R (.bl (g (PyData.eqv d e))) s
    | _, _ => False)
theorem od_eq (hu : X.A.units + 64 < cLine) : OpR X (compareOp .Eq) (lift2 X.K (rEqv id)) := by
  refine op_imp (op_eq.or (op_eqD hu)) fun x y H Q ⟨w, u, s, R, r1, r2, m, h, p⟩ => ?_
  unfold rEqv at h
  split at h
  · cases r1; cases r2; exact .inl ⟨rfl, by rw [dec_int, Bool.beq_eq_decide_eq]; exact p _ _ _ _ h (.refl _ _) m rfl⟩
  · cases r1; cases r2; exact .inl ⟨rfl, by rw [dec_str, Bool.beq_eq_decide_eq]; exact p _ _ _ _ h (.refl _ _) m rfl⟩
  · cases r1; cases r2; exact .inl ⟨rfl, by rw [dec_bl, Bool.beq_eq_decide_eq]; exact p _ _ _ _ h (.refl _ _) m rfl⟩
  · split at h
    · rename_i d e hd he
      exact .inr ⟨d, e, pyOf_dp hd r1 m, pyOf_dp he r2 m, h.1, h.2.1, p _ _ _ _ h.2.2 (.refl _ _) m rfl⟩
    · exact h.elim
theorem od_ne (hu : X.A.units + 64 < cLine) : OpR X (compareOp .NotEq) (lift2 X.K (rEqv (!·))) := by
  refine op_imp (op_ne.or (op_neD hu)) fun x y H Q ⟨w, u, s, R, r1, r2, m, h, p⟩ => ?_
  unfold rEqv at h
  split at h
  · cases r1; cases r2; exact .inl ⟨rfl, by rw [dec_int, Bool.beq_eq_decide_eq]; exact p _ _ _ _ h (.refl _ _) m rfl⟩
  · cases r1; cases r2; exact .inl ⟨rfl, by rw [dec_str, Bool.beq_eq_decide_eq]; exact p _ _ _ _ h (.refl _ _) m rfl⟩
  · cases r1; cases r2; exact .inl ⟨rfl, by rw [dec_bl, Bool.beq_eq_decide_eq]; exact p _ _ _ _ h (.refl _ _) m rfl⟩
  · split at h
    · rename_i d e hd he
      exact .inr ⟨d, e, pyOf_dp hd r1 m, pyOf_dp he r2 m, h.1, h.2.1, p _ _ _ _ h.2.2 (.refl _ _) m rfl⟩
    · exact h.elim
def isNon : D → Bool
  | .non => true
  | _ => false
theorem isNon_rep {K : PySem.W.Frag} {H : Hp} {w : D} {v : V} (r : Rep K H w v) : decide (v = .non) = isNon w := by
  cases w with
  | non => cases r; rfl
  | bl _ => cases r; rfl
  | int _ => cases r; rfl
  | str _ => cases r; rfl
  | tup _ => obtain ⟨a, vs, rfl, _⟩ := r; rfl
  | lst _ => obtain ⟨a, vs, rfl, _⟩ := r; rfl
  | dic _ _ => obtain ⟨a, vs, o, rfl, _⟩ := r; rfl
  | ref _ => cases r; rfl
  | ty _ => cases r; rfl
def rIsN (g : Bool → Bool) : D2 := fun x y s R => match y with
  | .non => R (.bl (g (isNon x))) s
  | _ => False
theorem od_is : OpR X (compareOp .Is) (lift2 X.K (rIsN id)) := by
  refine op_imp op_isN fun x y H Q ⟨w, u, s, R, r1, r2, m, h, p⟩ => ?_
  unfold rIsN at h
  split at h
  · exact ⟨r2, by rw [isNon_rep r1]; exact p _ _ _ _ h (.refl _ _) m rfl⟩
  · exact h.elim
theorem od_isnot : OpR X (compareOp .IsNot) (lift2 X.K (rIsN (!·))) := by
  refine op_imp op_notN fun x y H Q ⟨w, u, s, R, r1, r2, m, h, p⟩ => ?_
  unfold rIsN at h
  split at h
  · exact ⟨r2, by rw [isNon_rep r1]; exact p _ _ _ _ h (.refl _ _) m rfl⟩
  · exact h.elim
end
end Dz
namespace Dz
open PySem PySem.Spec PyProof.Rows L2

/-! ### statements -/
section
variable {X : Cx} {pos : Pos}
def dNx : DS := fun D env s => D.nx env s
def dSeq (t u : DS) : DS := fun D env s => t { D with nx := u D } env s
def dBrk : DS := fun D env s => D.bk env s
def dCnt : DS := fun D env s => D.ct env s
def dRet (te : DE) : DS := fun D env s => te env s D.rt
def dRetN : DS := fun D _ s => D.rt .non s
def dExpr (te : DE) : DS := fun D env s => te env s fun _ s1 => D.nx env s1
def dIf (c : DT) (t u : DS) : DS := fun D env s => c env s fun b s1 => if b = true then t D env s1 else u D env s1
theorem pds_nil : PDSs X [] dNx := pss_imp pss_nil fun D σ H ⟨env, s, DD, h1, h2, h3, h4⟩ => h4.nx env s σ H h3 (.refl _ _) h2 h1
theorem pds_cons {st : Stmt} {rest : List Stmt} {t u : DS} (h : PDS X st t) (hr : PDSs X rest u) : PDSs X (st :: rest) (dSeq t u) :=
  pss_imp (pss_cons h hr) fun D σ H ⟨env, s, DD, h1, h2, h3, h4⟩ => ⟨env, s, { DD with nx := u DD }, h1, h2, h3, ⟨fun env' s' σ' H' q e m r => ⟨env', s', DD, r, m, q, h4.ext e⟩, h4.rt, h4.bk, h4.ct⟩⟩
theorem pds_one {st : Stmt} {t : DS} (h : PDS X st t) : PDSs X [st] t := pss_one h
theorem pd_pass : PDS X (.Pass pos) dNx := ps_imp ps_pass fun D σ H ⟨env, s, DD, h1, h2, h3, h4⟩ => h4.nx env s σ H h3 (.refl _ _) h2 h1
theorem pd_brk : PDS X (.Break pos) dBrk := ps_imp ps_break fun D σ H ⟨env, s, DD, h1, h2, h3, h4⟩ => h4.bk env s σ H h3 (.refl _ _) h2 h1
theorem pd_cnt : PDS X (.Continue pos) dCnt := ps_imp ps_continue fun D σ H ⟨env, s, DD, h1, h2, h3, h4⟩ => h4.ct env s σ H h3 (.refl _ _) h2 h1
theorem pd_ret {e : Expr} {te : DE} (h : PD X e te) : PDS X (.Return (some e) pos) (dRet te) := ps_imp (ps_ret h) fun D σ H ⟨env, s, DD, h1, h2, h3, h4⟩ => ⟨env, s, _, h1, h2, h3, h4.rt⟩
theorem pd_retN : PDS X (.Return none pos) dRetN := ps_imp ps_retN fun D σ H ⟨env, s, DD, h1, h2, h3, h4⟩ => h4.rt .non s _ H h3 (.refl _ _) h2 rfl
theorem pd_expr {e : Expr} {te : DE} (h : PD X e te) (hs : swapsWith e none pos.line X.env = pure false := by rfl) : PDS X (.Expr e pos) (dExpr te) :=
  ps_imp (ps_expr h hs) fun D σ H ⟨env, s, DD, h1, h2, h3, h4⟩ => ⟨env, s, _, h1, h2, h3, fun w s1 v H1 q e m r => h4.nx env s1 σ H1 q e m (h1.ext e.ext)⟩
theorem pd_if {c : Expr} {a b : List Stmt} {tc : DT} {t u : DS} (hc : PDT X c tc) (ha : PDSs X a t) (hb : PDSs X b u) : PDS X (.If c a b pos) (dIf tc t u) :=
  ps_imp (ps_if hc ha hb) fun D σ H ⟨env, s, DD, h1, h2, h3, h4⟩ => ⟨env, s, _, h1, h2, h3, fun b s1 H1 q e m => by
    cases b with
    | true => rw [if_pos rfl] at q ⊢; exact ⟨env, s1, DD, h1.ext e.ext, m, q, h4.ext e⟩
    | false => rw [if_neg Bool.false_ne_true] at q ⊢; exact ⟨env, s1, DD, h1.ext e.ext, m, q, h4.ext e⟩⟩

/-! ### targets -/
abbrev DG := D → Ev → Sg → (Ev → Sg → Prop) → Prop
abbrev DGs := List D → Ev → Sg → (Ev → Sg → Prop) → Prop
def liftG (K : PySem.W.Frag) (g : DG) : TG := fun v σ H Q => ∃ w env s R, Rep K H w v ∧ REnv K H env σ ∧ MRep K H s ∧ g w env s R ∧ PostN K H s R Q
def liftGs (K : PySem.W.Frag) (g : DGs) : TGs := fun v σ H Q => ∃ w env s R, Reps K H w v ∧ REnv K H env σ ∧ MRep K H s ∧ g w env s R ∧ PostN K H s R Q
/-- a V-level target serves a deep one -/
def GI (K : PySem.W.Frag) (g : DG) (gv : TG) : Prop := ∀ v σ H Q, liftG K g v σ H Q → gv v σ H Q
def GIs (K : PySem.W.Frag) (g : DGs) (gv : TGs) : Prop := ∀ v σ H Q, liftGs K g v σ H Q → gv v σ H Q
abbrev PDG (X : Cx) (tg : Expr) (g : DG) : Prop := PG X tg (liftG X.K g)
abbrev PDGs (X : Cx) (tg : List Expr) (g : DGs) : Prop := PGs X tg (liftGs X.K g)
theorem pg_imp {tg : Expr} {g g' : TG} (h : PG X tg g) (hi : ∀ v σ H Q, g' v σ H Q → g v σ H Q) : PG X tg g' := ⟨fun pins s σ H v u Q I r q => h.run pins s σ H v u Q I r (hi v σ H Q q)⟩
theorem pgs_imp {tg : List Expr} {g g' : TGs} (h : PGs X tg g) (hi : ∀ v σ H Q, g' v σ H Q → g v σ H Q) : PGs X tg g' := ⟨fun pins s σ H v u Q I r q => h.run pins s σ H v u Q I r (hi v σ H Q q)⟩
def dgN (i : Nat) : DG := fun w env s R => R (env.set i (some w)) s
def dgNil : DGs := fun ws env s R => match ws with
  | [] => R env s
  | _ => False
def dgCons (g : DG) (gs : DGs) : DGs := fun ws env s R => match ws with
  | w :: r => g w env s fun env' s' => gs r env' s' R
  | [] => False
def dgT (n : Nat) (gs : DGs) : DG := fun w env s R => match asQ s w with
  | some ws => ws.length = n ∧ gs ws env s R
  | none => False
theorem gi_name {K : PySem.W.Frag} (i : Nat) : GI K (dgN i) (L2.gName i) := fun v σ H Q ⟨w, env, s, R, r, h1, h2, h3, h4⟩ => h4 _ s _ H h3 (.refl _ _) h2 (h1.set i r)
theorem gi_nil {K : PySem.W.Frag} : GIs K dgNil L2.gNil := fun v σ H Q ⟨w, env, s, R, r, h1, h2, h3, h4⟩ => by
  cases w with
  | nil => exact ⟨r, h4 _ s _ H h3 (.refl _ _) h2 h1⟩
  | cons _ _ => exact h3.elim
theorem pdg_name {i : Nat} {x : Str} (hN : X.N.Nodup) (hi : X.N[i]? = some x) (hx : Loc X.env.scope x) (hf : X.fn x = true ∨ X.env.scope.names.lookup x = some .local := by first | exact .inl rfl | exact .inr rfl | assumption) : PDG X (.Name x pos) (dgN i) := pg_imp (pg_name hN hi hx hf) (gi_name i)
theorem pdgs_nil : PDGs X [] dgNil := pgs_imp pgs_nil gi_nil
theorem pdgs_cons {e : Expr} {es : List Expr} {g : DG} {gs : DGs} (h1 : PDG X e g) (h2 : PDGs X es gs)
    (hs : (assignEach (e :: es) X.env).map (·.2) = assign e X.env :: (assignEach es X.env).map (·.2) := by rfl) : PDGs X (e :: es) (dgCons g gs) :=
  pgs_imp (pgs_cons h1 h2 hs) fun v σ H Q ⟨w, env, s, R, r, h1, h2, h3, h4⟩ => by
    cases w with
    | nil => exact h3.elim
    | cons w ws =>
      obtain ⟨v1, vr, rfl, r1, r2⟩ := r
      exact ⟨v1, vr, rfl, w, env, s, _, r1, h1, h2, h3, fun env' s' σ' H' q e m rr => ⟨ws, env', s', R, Reps.ext e.ext _ _ r2, rr, m, q, h4.ext e⟩⟩
theorem pdg_tup {es : List Expr} {k : Nat} {gs : DGs} {n : Nat} (hc : X.calm = true) (h : PDGs X es gs)
    (hn : (assignEach es X.env).length = n := by rfl) (hst : (assignEach es X.env).findIdx? (·.1) = none := by rfl) : PDG X (.Tuple es k pos) (dgT n gs) :=
  ⟨fun pins s σ H v u Q I r ⟨w, env, sg, R, rw', h1, h2, h3, h4⟩ => by
    unfold dgT at h3
    split at h3
    · rename_i ws e
      cases w with
      | tup us =>
        cases e
        obtain ⟨a, vs, e1, f, q⟩ := rw'
        exact (pg_tup hc h hn hst).run pins s σ H v u Q I r ⟨a, vs, e1, f, by rw [← q.len]; exact h3.1, ws, env, sg, R, q, h1, h2, h3.2, h4⟩
      | lst us =>
        obtain ⟨a, vs, e1, f, q⟩ := asL_sq (s := sg) (show asL sg (.lst us) = some ws from e) rw' h2
        exact (pg_unl hc h hn hst).run pins s σ H v u Q I r ⟨a, vs, e1, f, by rw [← q.len]; exact h3.1, ws, env, sg, R, q, h1, h2, h3.2, h4⟩
      | ref b =>
        obtain ⟨a, vs, e1, f, q⟩ := asL_sq (s := sg) (show asL sg (.ref b) = some ws from e) rw' h2
        exact (pg_unl hc h hn hst).run pins s σ H v u Q I r ⟨a, vs, e1, f, by rw [← q.len]; exact h3.1, ws, env, sg, R, q, h1, h2, h3.2, h4⟩
      | _ => cases e
    · exact h3.elim⟩
/-! assignments -/
def dAsg (te : DE) (g : DG) : DS := fun D env s => te env s fun w s1 => g w env s1 D.nx
def dSet (i : Nat) (te : DE) : DS := fun D env s => te env s fun w s1 => D.nx (env.set i (some w)) s1
theorem pd_set {i : Nat} {x : Str} {e : Expr} {te : DE} {pos' : Pos} (hN : X.N.Nodup) (hi : X.N[i]? = some x) (hx : Loc X.env.scope x) (he : PD X e te) (hs : swapsWith e (some (.Name x pos')) pos.line X.env = pure false := by rfl)
    (hf : X.fn x = true ∨ X.env.scope.names.lookup x = some .local := by first | exact .inl rfl | exact .inr rfl | assumption) : PDS X (.Assign [.Name x pos'] e pos) (dSet i te) :=
  ps_imp (ps_set hN hi hx he hs hf) fun D σ H ⟨env, s, DD, h1, h2, h3, h4⟩ => ⟨env, s, _, h1, h2, h3, fun w s1 v H1 q e m r => h4.nx _ s1 _ H1 q e m ((h1.ext e.ext).set i r)⟩
theorem pd_asg {tg e : Expr} {te : DE} {g : DG} (he : PD X e te) (hg : PDG X tg g) (hs : swapsWithSole [tg] e pos.line X.env = pure false := by rfl) (hw : swappedStores [tg] e X.env = pure none := by rfl)
    (h1 : (assignEach [tg] X.env).map (·.2) = [assign tg X.env] := by rfl) : PDS X (.Assign [tg] e pos) (dAsg te g) :=
  ps_imp (ps_asg he hg hs hw h1) fun D σ H ⟨env, s, DD, h1, h2, h3, h4⟩ => ⟨env, s, _, h1, h2, h3, fun w s1 v H1 q e m r => ⟨w, env, s1, _, r, h1.ext e.ext, m, q, h4.nx.ext e⟩⟩
def dPar (i j : Nat) (ta : DA) : DS := fun D env s => ta env s fun ws s1 => match ws with
  | [u, w] => D.nx ((env.set i (some u)).set j (some w)) s1
  | _ => False
def dPar3 (i j l : Nat) (ta : DA) : DS := fun D env s => ta env s fun ws s1 => match ws with
  | [u, w, z] => D.nx (((env.set i (some u)).set j (some w)).set l (some z)) s1
  | _ => False
theorem pd_par {i j : Nat} {x y : Str} {a b : Expr} {ta : DA} {px py pt : Pos} {kt k2 pt2} (hc : X.calm = true) (hN : X.N.Nodup) (hi : X.N[i]? = some x) (hj : X.N[j]? = some y) (hij : i ≠ j)
    (hx : X.env.scope.names.lookup x = some .local) (hy : X.env.scope.names.lookup y = some .local) (ha : PDA X [a, b] ta)
    (hw : swappedStores [.Tuple [.Name x px, .Name y py] kt pt] (.Tuple [a, b] k2 pt2) X.env = pure (some [x, y]) := by rfl)
    (hs : swapsWithSole [.Tuple [.Name x px, .Name y py] kt pt] (.Tuple [a, b] k2 pt2) pos.line X.env = pure false := by rfl) :
    PDS X (.Assign [.Tuple [.Name x px, .Name y py] kt pt] (.Tuple [a, b] k2 pt2) pos) (dPar i j ta) :=
  ps_imp (ps_par hc hN hi hj hij hx hy ha hw hs) fun D σ H ⟨env, s, DD, h1, h2, h3, h4⟩ => ⟨env, s, _, h1, h2, h3, fun ws s1 vs H1 q e m r => by
    split at q
    · obtain ⟨v1, r1, rfl, q1, q2⟩ := r
      obtain ⟨v2, r2, rfl, q3, q4⟩ := q2
      cases (show r2 = [] from q4)
      exact ⟨v1, v2, rfl, h4.nx _ s1 _ H1 q e m (((h1.ext e.ext).set i q1).set j q3)⟩
    · exact q.elim⟩
theorem pd_par3 {i j l : Nat} {x y z : Str} {a b c : Expr} {ta : DA} {px py pz pt : Pos} {kt k2 pt2} (hc : X.calm = true) (hN : X.N.Nodup) (hi : X.N[i]? = some x) (hj : X.N[j]? = some y) (hl : X.N[l]? = some z) (hij : i ≠ j) (hil : i ≠ l) (hjl : j ≠ l)
    (hx : X.env.scope.names.lookup x = some .local) (hy : X.env.scope.names.lookup y = some .local) (hz : X.env.scope.names.lookup z = some .local) (ha : PDA X [a, b, c] ta)
    (hw : swappedStores [.Tuple [.Name x px, .Name y py, .Name z pz] kt pt] (.Tuple [a, b, c] k2 pt2) X.env = pure (some [x, y, z]) := by rfl)
    (hs : swapsWithSole [.Tuple [.Name x px, .Name y py, .Name z pz] kt pt] (.Tuple [a, b, c] k2 pt2) pos.line X.env = pure false := by rfl) :
    PDS X (.Assign [.Tuple [.Name x px, .Name y py, .Name z pz] kt pt] (.Tuple [a, b, c] k2 pt2) pos) (dPar3 i j l ta) :=
  ps_imp (ps_par3 hc hN hi hj hl hij hil hjl hx hy hz ha hw hs) fun D σ H ⟨env, s, DD, h1, h2, h3, h4⟩ => ⟨env, s, _, h1, h2, h3, fun ws s1 vs H1 q e m r => by
    split at q
    · obtain ⟨v1, r1, rfl, q1, q2⟩ := r
      obtain ⟨v2, r2, rfl, q3, q4⟩ := q2
      obtain ⟨v3, r3, rfl, q5, q6⟩ := q4
      cases (show r3 = [] from q6)
      exact ⟨v1, v2, v3, rfl, h4.nx _ s1 _ H1 q e m ((((h1.ext e.ext).set i q1).set j q3).set l q5)⟩
    · exact q.elim⟩
end

/-! ### what is walked -/
def asI (s : Sg) : D → Option (List D)
  | .str x => some (x.cps.toList.map fun c => .str ⟨#[c]⟩)
  | w => asQ s w
/-- an iterator that hands out ws, as long as w stands -/
def ItOk (K : PySem.W.Frag) (J : It) (H : Hp) (w : D) (ws : List D) : Prop := ∀ H' s', Ext H H' → MRep K H' s' → asI s' w = some ws → ∀ i : Nat,
  (∀ x, ws[i]? = some x → J.go i H' ∧ ∀ v H2, J.yld i H' v H2 → Rep K H2 x v ∧ Stp H' s' H2 s' ∧ MRep K H2 s' ∧ ∀ b o, H' b = some o → H2 b = some o) ∧ (ws.length ≤ i → J.stop i H')
abbrev DI := Ev → Sg → (D → List D → Sg → Prop) → Prop
def liftI (K : PySem.W.Frag) (t : DI) : TI := fun σ H R => ∃ env s R', REnv K H env σ ∧ MRep K H s ∧ t env s R' ∧ ∀ w ws s1 H1 J, R' w ws s1 → Stp H s H1 s1 → MRep K H1 s1 → asI s1 w = some ws → ItOk K J H1 w ws → R J H1
abbrev PDI (X : Cx) (tg iter : Expr) (t : DI) : Prop := PI X tg iter (liftI X.K t)
theorem asI_lst {s : Sg} {ws : List D} : asI s (.lst ws) = some ws := rfl
theorem itok_list {K : PySem.W.Frag} {H : Hp} {w : D} {ws : List D} {a : Addr} (r : Rep K H w (.ref a)) (hL : ∀ s, asI s w = asL s w) : ItOk K (Itl K a) H w ws := fun H' s' e m hw i => by
  obtain ⟨b, vs, e1, f, q⟩ := asL_sq (s := s') (by rw [← hL]; exact hw) (Rep.ext e _ _ r) m
  cases e1
  refine ⟨fun x hx => ?_, fun hi => ⟨vs, f, by rw [← q.len]; exact hi⟩⟩
  obtain ⟨v, hv, rv⟩ := q.get hx
  refine ⟨⟨vs, v, f, hv⟩, fun v' H2 ⟨e2, y⟩ => ?_⟩
  subst e2
  have := y vs f
  rw [hv] at this
  cases this
  exact ⟨rv, .refl _ _, m, fun _ _ z => z⟩
theorem itok_tup {K : PySem.W.Frag} {H : Hp} {us ws : List D} {a : Addr} (r : Rep K H (.tup us) (.ref a)) : ItOk K (Itt K a) H (.tup us) ws := fun H' s' e m hw i => by
  cases hw
  obtain ⟨b, vs, e1, f, q⟩ := Rep.ext e _ _ r
  cases e1
  refine ⟨fun x hx => ?_, fun hi => ⟨vs, f, by rw [← q.len]; exact hi⟩⟩
  obtain ⟨v, hv, rv⟩ := q.get hx
  refine ⟨⟨vs, v, f, hv⟩, fun v' H2 ⟨e2, y⟩ => ?_⟩
  subst e2
  have := y vs f
  rw [hv] at this
  cases this
  exact ⟨rv, .refl _ _, m, fun _ _ z => z⟩
theorem itok_str {K : PySem.W.Frag} {H : Hp} {x : Str} {ws : List D} : ItOk K (Its x) H (.str x) ws := fun H' s' e m hw i => by
  cases hw
  refine ⟨fun y hy => ?_, fun hi => by show x.cps.size ≤ i; simpa using hi⟩
  rw [List.getElem?_map] at hy
  obtain ⟨c, hc, rfl⟩ := Option.map_eq_some_iff.mp hy
  have hi : i < x.cps.size := by
    have := (List.getElem?_eq_some_iff.mp hc).1
    simpa using this
  refine ⟨hi, fun v' H2 ⟨e2, d, hd, z⟩ => ?_⟩
  subst e2
  have : x.cps[i]? = some c := by simpa using hc
  rw [this] at hd
  cases hd
  exact ⟨z, .refl _ _, m, fun _ _ z => z⟩
section
variable {X : Cx} {tg : Expr}
theorem it_any {pins : List (Addr × Obj)} {σ : L2.St} {H : Hp} {s : Shared} {R : It → Hp → Prop} {sg : Sg} {w : D} {ws : List D} {v : V} {u : Value} (I : Inv X pins σ H s) (ru : RelV v u) (r : Rep X.K H w v) (m : MRep X.K H sg) (h : asI sg w = some ws)
    (q : ∀ J, ItOk X.K J H w ws → R J H) : wpAny (model X.prog X.w) X.A (pyIter u) (PIE X pins σ tg R) X.xe s := by
  have lists : ∀ a vs, v = .ref a → SqL X.K H a vs → R (Itl X.K a) H → wpAny (model X.prog X.w) X.A (pyIter u) (PIE X pins σ tg R) X.xe s := fun a vs e f z => by
    subst e
    cases ru
    obtain ⟨its, rv, p, hz⟩ := I.list f
    exact wpAny_pyIter_list p.isList (pi_one (tk := s.toks) I _ (turn_list a _) ⟨_, Heap.get?_push_size _ rfl, rfl, rfl⟩ z)
  cases w with
  | str x =>
    cases (show v = .str x from r)
    obtain ⟨t, rfl⟩ := ru
    cases ha : x.cps.all (· < 128)
    · exact wpAny_pyIter_wide ha (pi_one (tk := s.toks) I _ (turn_str _ x t "str_iterator" (.inr rfl)) ⟨_, Heap.get?_push_size _ rfl, rfl, rfl⟩ (q _ itok_str))
    · exact wpAny_pyIter_ascii ha (pi_one (tk := s.toks) I _ (turn_str _ x t "str_ascii_iterator" (.inl rfl)) ⟨_, Heap.get?_push_size _ rfl, rfl, rfl⟩ (q _ itok_str))
  | tup us =>
    obtain ⟨a, vs, rfl, f, g⟩ := id r
    cases ru
    obtain ⟨its, rv, p, hz⟩ := I.tuple f
    exact wpAny_pyIter_tuple (show s.heap.IsTuple a its.toArray from p) (pi_one (tk := s.toks) I _ (turn_tuple a _) ⟨_, Heap.get?_push_size _ rfl, rfl, rfl⟩ (q _ (itok_tup r)))
  | lst us =>
    obtain ⟨a, vs, e, f, g⟩ := asL_sq (s := sg) (ws := us) rfl r m
    exact lists a vs e f (q _ (itok_list (e ▸ r) fun _ => rfl))
  | ref b =>
    obtain ⟨a, vs, e, f, g⟩ := asL_sq (s := sg) (ws := ws) (show asL sg (.ref b) = some ws from h) r m
    exact lists a vs e f (q _ (itok_list (e ▸ r) fun _ => rfl))
  | _ => cases h
def dIt (te : DE) : DI := fun env s R => te env s fun w s1 => match asI s1 w with
  | some ws => R w ws s1
  | none => False
theorem pdi_it {e : Expr} {te : DE} (h : PD X e te) : PDI X tg e (dIt te) := by
  refine ⟨fun pins s σ H R I ⟨env, sg, R', h1, h2, h3, h4⟩ => ?_⟩
  have key : liftE X.K te σ H (fun v H1 => ∃ w ws s1, asI s1 w = some ws ∧ R' w ws s1 ∧ Stp H sg H1 s1 ∧ MRep X.K H1 s1 ∧ Rep X.K H1 w v) := by
    refine ⟨env, sg, _, h1, h2, h3, fun w s1 v H1 q e m r => ?_⟩
    split at q
    · rename_i ws hw
      exact ⟨w, ws, s1, hw, q, e, m, r⟩
    · exact q.elim
  refine thn (h.run pins s σ H _ I key) fun u s' ⟨v, H1, I1, ru, w, ws, s1, hw, q, e, m, r⟩ => ?_
  exact it_any I1 ru r m hw fun J z => h4 w ws s1 H1 J q e m hw z
/-- range -/
def rg (lo : Int) (n : Nat) : List D := (List.range n).map fun k : Nat => .int (lo + k)
theorem itok_range {K : PySem.W.Frag} {H : Hp} {lo : Int} {n : Nat} {ws : List D} : ItOk K (Itr lo n) H (.lst (rg lo n)) ws := fun H' s' e m hw i => by
  cases hw
  refine ⟨fun y hy => ?_, fun hi => by show n ≤ i; simpa [rg] using hi⟩
  unfold rg at hy
  rw [List.getElem?_map] at hy
  obtain ⟨k, hk, rfl⟩ := Option.map_eq_some_iff.mp hy
  have hi : i < n := by have := (List.getElem?_eq_some_iff.mp hk).1; simpa using this
  rw [List.getElem?_range hi] at hk
  cases hk
  refine ⟨hi, fun v' H2 ⟨e2, z⟩ => ?_⟩
  subst e2
  exact ⟨z, .refl _ _, m, fun _ _ z => z⟩
def dRng1 (ta : DA) : DI := fun env s R => ta env s fun ws s1 => match ws with
  | [.int j] => -1000000000 < j ∧ j < 1000000000 ∧ R (.lst (rg 0 j.toNat)) (rg 0 j.toNat) s1
  | _ => False
def dRng2 (ta : DA) : DI := fun env s R => ta env s fun ws s1 => match ws with
  | [.int i, .int j] => (-1000000000 < i ∧ i < 1000000000 ∧ -1000000000 < j ∧ j < 1000000000) ∧ R (.lst (rg i (j - i).toNat)) (rg i (j - i).toNat) s1
  | _ => False
theorem pdi_range1 {a : Expr} {ta : DA} {p pos : Pos} (hg : Gl X "range") (hm : X.mg "range" = none) (ha : PDA X [a] ta) (hs : starEach [a] X.env = [(false, eval a X.env)] := by rfl) : PDI X tg (.Call (.Name "range" p) [a] [] pos) (dRng1 ta) :=
  ⟨fun pins s σ H R I ⟨env, sg, R', h1, h2, h3, h4⟩ => (pi_range1 hg hm ha hs).run pins s σ H R I ⟨env, sg, _, h1, h2, h3, fun ws s1 vs H1 q e m r => by
    split at q
    · rename_i j
      obtain ⟨v, vr, rfl, r1, r2⟩ := r
      cases (show vr = [] from r2)
      cases (show v = .int j from r1)
      exact ⟨j, rfl, by omega, by omega, h4 _ _ s1 H1 _ q.2.2 e m rfl itok_range⟩
    · exact q.elim⟩⟩
theorem pdi_range2 {a b : Expr} {ta : DA} {p pos : Pos} (hg : Gl X "range") (hm : X.mg "range" = none) (ha : PDA X [a, b] ta) (hs : starEach [a, b] X.env = [(false, eval a X.env), (false, eval b X.env)] := by rfl) (hs2 : starEach [b] X.env = [(false, eval b X.env)] := by rfl) :
    PDI X tg (.Call (.Name "range" p) [a, b] [] pos) (dRng2 ta) :=
  ⟨fun pins s σ H R I ⟨env, sg, R', h1, h2, h3, h4⟩ => (pi_range2 hg hm ha hs hs2).run pins s σ H R I ⟨env, sg, _, h1, h2, h3, fun ws s1 vs H1 q e m r => by
    split at q
    · rename_i i j
      obtain ⟨v, vr, rfl, r1, r2⟩ := r
      obtain ⟨v2, vr2, rfl, r3, r4⟩ := r2
      cases (show vr2 = [] from r4)
      cases (show v = .int i from r1)
      cases (show v2 = .int j from r3)
      exact ⟨i, j, rfl, by omega, h4 _ _ s1 H1 _ q.2 e m rfl itok_range⟩
    · exact q.elim⟩⟩

/-! ### for -/
def dForL (w : D) (ws : List D) (g : DG) (tb : DS) (DD : DEnds) : List D → Ev → Sg → Prop
  | [], env, s => asI s w = some ws ∧ DD.nx env s
  | x :: r, env, s => asI s w = some ws ∧ g x env s fun env' s' => tb { DD with nx := dForL w ws g tb DD r, ct := dForL w ws g tb DD r, bk := DD.nx } env' s'
def dFor (ti : DI) (g : DG) (tb : DS) : DS := fun DD env s => ti env s fun w ws s1 => dForL w ws g tb DD ws env s1
theorem dForL_alive {w : D} {ws : List D} {g : DG} {tb : DS} {DD : DEnds} {l : List D} {env : Ev} {s : Sg} (h : dForL w ws g tb DD l env s) : asI s w = some ws := by cases l <;> exact h.1
theorem pd_for {iter : Expr} {body : List Stmt} {ti : DI} {g : DG} {tb : DS} {pos : Pos} (hp : PassesOwn (model X.prog X.w) X.A X.env X.xe) (hc : X.calm = true) (hi : PDI X tg iter ti) (hg : PDG X tg g) (hb : PDSs X body tb)
    (hs : ∀ x, foldedSetIterable iter X.env x = pure x := by intro _; rfl) : PDS X (.For tg iter body [] pos) (dFor ti g tb) :=
  ps_imp (ps_for hp hc hi hg hb hs) fun D σ H ⟨env, s, DD, h1, h2, h3, h4⟩ => ⟨env, s, _, h1, h2, h3, fun w ws s1 H1 J q e1 m1 hw ok => by
    refine ⟨fun i m σ' H' => m = ws.length - i ∧ i ≤ ws.length ∧ ∃ env' s', REnv X.K H' env' σ' ∧ MRep X.K H' s' ∧ Stp H1 s1 H' s' ∧ dForL w ws g tb DD (ws.drop i) env' s',
      ⟨_, rfl, Nat.zero_le _, env, s1, h1.ext e1.ext, m1, .refl _ _, q⟩, ?_⟩
    rintro i m σ' H' ⟨rfl, hi, env', s', r', m', e', q'⟩
    obtain ⟨o1, o2⟩ := ok H' s' e'.ext m' (dForL_alive q') i
    by_cases hlt : i < ws.length
    · obtain ⟨go, yl⟩ := o1 ws[i] (by simp [hlt])
      rw [List.drop_eq_getElem_cons hlt] at q'
      refine .inr ⟨go, fun σ2 H2 => ∃ env2 s2, REnv X.K H2 env2 σ2 ∧ MRep X.K H2 s2 ∧ Stp H1 s1 H2 s2 ∧ dForL w ws g tb DD (ws.drop (i + 1)) env2 s2, fun σ2 H2 z => ⟨ws.length - (i + 1), by omega, rfl, hlt, z⟩, fun v H2 y => ?_⟩
      obtain ⟨rv, e2, m2, _⟩ := yl v H2 y
      have e3 := e'.trans e2
      refine ⟨ws[i], env', s', _, rv, r'.ext e2.ext, m2, q'.2, fun env2 s2 σ2 H3 q2 e4 m4 r4 => ?_⟩
      exact ⟨env2, s2, _, r4, m4, q2, ⟨fun env5 s5 σ5 H5 q5 e5 m5 r5 => ⟨env5, s5, r5, m5, (e3.trans e4).trans e5, q5⟩, h4.rt.ext (e1.trans (e3.trans e4)), h4.nx.ext (e1.trans (e3.trans e4)), fun env5 s5 σ5 H5 q5 e5 m5 r5 => ⟨env5, s5, r5, m5, (e3.trans e4).trans e5, q5⟩⟩⟩
    · have ei : i = ws.length := by omega
      subst ei
      rw [List.drop_length] at q'
      exact .inl ⟨o2 (Nat.le_refl _), h4.nx env' s' σ' H' q'.2 (e1.trans e') m' r'⟩⟩
/-- while, with the fuel of its turns -/
def dWhileN (c : DT) (tb : DS) (DD : DEnds) : Nat → Ev → Sg → Prop
  | 0, _, _ => False
  | n + 1, env, s => c env s fun b s1 => if b = true then tb { DD with nx := dWhileN c tb DD n, ct := dWhileN c tb DD n, bk := DD.nx } env s1 else DD.nx env s1
def dWhile (c : DT) (tb : DS) : DS := fun DD env s => ∃ n, dWhileN c tb DD n env s
theorem pd_while {c : Expr} {body : List Stmt} {tc : DT} {tb : DS} {pos : Pos} (hp : PassesOwn (model X.prog X.w) X.A X.env X.xe) (hc : PDT X c tc) (hb : PDSs X body tb) : PDS X (.While c body [] pos) (dWhile tc tb) :=
  ps_imp (ps_while hp hc hb) fun D σ H ⟨env, s, DD, h1, h2, ⟨n, h3⟩, h4⟩ => by
    refine ⟨fun m σ' H' => ∃ env' s', REnv X.K H' env' σ' ∧ MRep X.K H' s' ∧ Stp H s H' s' ∧ dWhileN tc tb DD m env' s', ⟨n, env, s, h1, h2, .refl _ _, h3⟩, ?_⟩
    rintro m σ' H' ⟨env', s', r', m', e', q'⟩
    cases m with
    | zero => exact q'.elim
    | succ m =>
      refine ⟨env', s', _, r', m', q', fun b s2 H2 q2 e2 m2 => ?_⟩
      cases b with
      | true =>
        rw [if_pos rfl] at q2 ⊢
        refine ⟨fun σ5 H5 => ∃ env5 s5, REnv X.K H5 env5 σ5 ∧ MRep X.K H5 s5 ∧ Stp H s H5 s5 ∧ dWhileN tc tb DD m env5 s5, fun σ5 H5 z => ⟨m, Nat.lt_succ_self _, z⟩, env', s2, _, r'.ext e2.ext, m2, q2, ?_⟩
        exact ⟨fun env5 s5 σ5 H5 q5 e5 m5 r5 => ⟨env5, s5, r5, m5, (e'.trans e2).trans e5, q5⟩, h4.rt.ext (e'.trans e2), h4.nx.ext (e'.trans e2), fun env5 s5 σ5 H5 q5 e5 m5 r5 => ⟨env5, s5, r5, m5, (e'.trans e2).trans e5, q5⟩⟩
      | false =>
        rw [if_neg Bool.false_ne_true] at q2 ⊢
        exact h4.nx env' s2 σ' H2 q2 (e'.trans e2) m2 (r'.ext e2.ext)
end
end Dz
namespace Dz
open PySem PySem.Spec PyProof.Rows L2

/-! ### comprehensions -/
def wipeD (env : Ev) : List Nat → Ev
  | [] => env
  | v :: vs => (wipeD env vs).set v none
theorem REnv.setN {K : PySem.W.Frag} {H : Hp} {env : Ev} {σ : L2.St} (i : Nat) (h : REnv K H env σ) : REnv K H (env.set i none) (σ.set i none) := by
  refine ⟨by rw [List.length_set, List.length_set]; exact h.1, fun j u q => ?_⟩
  rw [List.getElem?_set] at q
  rw [List.getElem?_set]
  split at q
  · split at q <;> cases q
  · rename_i ne
    rw [if_neg ne]
    exact h.2 j u q
theorem REnv.wipe {K : PySem.W.Frag} {H : Hp} {env : Ev} {σ : L2.St} (h : REnv K H env σ) : ∀ vs : List Nat, REnv K H (wipeD env vs) (L2.wipe σ vs)
  | [] => h
  | v :: vs => (REnv.wipe h vs).setN v
theorem wipe_set_out {σ : L2.St} {i : Nat} {x : Option V} : ∀ {vs : List Nat}, i ∉ vs → L2.wipe (σ.set i x) vs = (L2.wipe σ vs).set i x
  | [], _ => rfl
  | v :: vs, h => by
    unfold L2.wipe
    rw [wipe_set_out (vs := vs) fun q => h (List.mem_cons_of_mem _ q), List.set_comm _ _ (fun e => h (by rw [e]; exact List.mem_cons_self))]
theorem wipe_set {σ : L2.St} {i : Nat} {x : Option V} : ∀ {vs : List Nat}, i ∈ vs → L2.wipe (σ.set i x) vs = L2.wipe σ vs
  | v :: vs, h => by
    unfold L2.wipe
    by_cases hm : i ∈ vs
    · rw [wipe_set hm]
    · rw [wipe_set_out hm]
      rcases List.mem_cons.mp h with e | e
      · subst e; rw [List.set_set]
      · exact absurd e hm
theorem wipe_idem {σ : L2.St} {vs : List Nat} : ∀ (us : List Nat), (∀ u ∈ us, u ∈ vs) → L2.wipe (L2.wipe σ us) vs = L2.wipe σ vs
  | [], _ => rfl
  | u :: us, h => by
    show L2.wipe ((L2.wipe σ us).set u none) vs = _
    rw [wipe_set (h u List.mem_cons_self), wipe_idem us fun z hz => h z (List.mem_cons_of_mem _ hz)]
structure Wi (vs : List Nat) (g : TG) : Prop where
  mono : ∀ v σ H (Q Q' : L2.St → Hp → Prop), (∀ σ H, Q σ H → Q' σ H) → g v σ H Q → g v σ H Q'
  wi : ∀ v σ H (Q : L2.St → Hp → Prop), g v σ H Q → g v σ H fun σ2 H2 => L2.wipe σ2 vs = L2.wipe σ vs ∧ Q σ2 H2
structure Wis (vs : List Nat) (g : TGs) : Prop where
  mono : ∀ v σ H (Q Q' : L2.St → Hp → Prop), (∀ σ H, Q σ H → Q' σ H) → g v σ H Q → g v σ H Q'
  wi : ∀ v σ H (Q : L2.St → Hp → Prop), g v σ H Q → g v σ H fun σ2 H2 => L2.wipe σ2 vs = L2.wipe σ vs ∧ Q σ2 H2
theorem wi_name {vs : List Nat} {i : Nat} (h : i ∈ vs) : Wi vs (L2.gName i) := ⟨fun v σ H Q Q' k q => k _ _ q, fun v σ H Q q => ⟨wipe_set h, q⟩⟩
theorem wi_nil {vs : List Nat} : Wis vs L2.gNil := ⟨fun v σ H Q Q' k q => ⟨q.1, k _ _ q.2⟩, fun v σ H Q q => ⟨q.1, rfl, q.2⟩⟩
theorem wi_cons {vs : List Nat} {g : TG} {gs : TGs} (a : Wi vs g) (b : Wis vs gs) : Wis vs (L2.gCons g gs) :=
  ⟨fun v σ H Q Q' k ⟨x, r, e, q⟩ => ⟨x, r, e, a.mono _ _ _ _ _ (fun σ1 H1 z => b.mono _ _ _ _ _ k z) q⟩,
   fun v σ H Q ⟨x, r, e, q⟩ => ⟨x, r, e, a.mono _ _ _ _ _ (fun σ1 H1 ⟨e1, z⟩ => b.mono _ _ _ _ _ (fun σ2 H2 ⟨e2, z2⟩ => ⟨e2.trans e1, z2⟩) (b.wi _ _ _ _ z)) (a.wi _ _ _ _ q)⟩⟩
theorem wi_tup {vs : List Nat} {K : PySem.W.Frag} {n : Nat} {gs : TGs} (b : Wis vs gs) : Wi vs (L2.gTup K n gs) :=
  ⟨fun v σ H Q Q' k ⟨a, xs, e1, e2, e3, q⟩ => ⟨a, xs, e1, e2, e3, b.mono _ _ _ _ _ k q⟩, fun v σ H Q ⟨a, xs, e1, e2, e3, q⟩ => ⟨a, xs, e1, e2, e3, b.wi _ _ _ _ q⟩⟩
def dgTt (n : Nat) (gs : DGs) : DG := fun w env s R => match w with
  | .tup ws => ws.length = n ∧ gs ws env s R
  | _ => False
theorem gi_cons {K : PySem.W.Frag} {g : DG} {gs : DGs} {gv : TG} {gvs : TGs} (a : GI K g gv) (b : GIs K gs gvs) : GIs K (dgCons g gs) (L2.gCons gv gvs) := fun v σ H Q ⟨w, env, s, R, r, h1, h2, h3, h4⟩ => by
  cases w with
  | nil => exact h3.elim
  | cons w ws =>
    obtain ⟨v1, vr, rfl, r1, r2⟩ := r
    exact ⟨v1, vr, rfl, a _ _ _ _ ⟨w, env, s, _, r1, h1, h2, h3, fun env' s' σ' H' q e m rr => b _ _ _ _ ⟨ws, env', s', R, Reps.ext e.ext _ _ r2, rr, m, q, h4.ext e⟩⟩⟩
theorem gi_tup {K : PySem.W.Frag} {n : Nat} {gs : DGs} {gvs : TGs} (b : GIs K gs gvs) : GI K (dgTt n gs) (L2.gTup K n gvs) := fun v σ H Q ⟨w, env, s, R, r, h1, h2, h3, h4⟩ => by
  cases w with
  | tup ws =>
    obtain ⟨a, vs, rfl, f, q⟩ := r
    exact ⟨a, vs, rfl, f, by rw [← q.len]; exact h3.1, b _ _ _ _ ⟨ws, env, s, R, q, h1, h2, h3.2, h4⟩⟩
  | _ => exact h3.elim

def hid (H : Hp) (a : Addr) : Hp := fun b => if b = a then none else H b
theorem hid_same {H : Hp} {a : Addr} : hid H a a = none := if_pos rfl
theorem hid_ne {H : Hp} {a b : Addr} (h : b ≠ a) : hid H a b = H b := if_neg h
theorem hid_back {H : Hp} {a : Addr} {o : HO} (h : H a = some o) : upd (hid H a) a o = H := by
  funext b
  unfold upd hid
  by_cases e : b = a
  · rw [if_pos e, e, h]
  · rw [if_neg e, if_neg e]
theorem ext_hid {H : Hp} {a : Addr} (h : Mut (H a)) : Ext H (hid H a) :=
  ⟨fun b xs e => by rw [hid_ne (fun z => by subst z; rw [e] at h; exact h)]; exact e, fun b o u e => by rw [hid_ne (fun z => by subst z; rw [e] at h; exact h)]; exact e⟩
/-- an object aside, not tracked: it may be changed, or hidden -/
theorem MRep.side {K : PySem.W.Frag} {H H' : Hp} {s : Sg} {p : Addr} (m : MRep K H s) (e : Ext H H') (k : ∀ b, b ≠ p → H' b = H b) (hp : s.M p = none) (hv : p ∉ s.pv) : MRep K H' s := by
  have na : ∀ b o, s.M b = some o → b ≠ p := fun b o h z => by subst z; rw [hp] at h; cases h
  have nv : ∀ b ∈ s.pv, b ≠ p := fun b h z => by subst z; exact hv h
  refine ⟨fun a o h => ?_, m.one, fun b hb => by rw [k b (nv b hb)]; exact m.pvs b hb⟩
  have q := m.at_ a o h
  have ka := k a (na a o h)
  cases o with
  | lst ws => obtain ⟨vs, h1, h2⟩ := q; exact ⟨vs, ka.trans h1, Reps.ext e _ _ h2⟩
  | dic ks ws => obtain ⟨vs, h1, h2, h3⟩ := q; exact ⟨vs, ka.trans h1, h2, Reps.ext e _ _ h3⟩
  | ins C ns ws => obtain ⟨dx, vs, h1, h2, h3⟩ := q; exact ⟨dx, vs, ka.trans h1, h2, Reps.ext e _ _ h3⟩
  | box I =>
    obtain ⟨st, vs, h0, h1, h2, h3⟩ := q
    exact ⟨st, vs, h0, ka.trans h1, h2.keep fun b hb => k b (nv b hb), h3⟩
theorem Stp.side {H1 H H' : Hp} {s1 s : Sg} {p : Addr} (t : Stp H1 s1 H s) (e : Ext H H') (h1 : H1 p = none) (k : ∀ b, b ≠ p → H' b = H b) : Stp H1 s1 H' s :=
  ⟨t.ext.trans e, fun b o h2 h3 h4 h5 => by obtain ⟨x, y, z⟩ := t.fr b o h2 h3 h4 h5; exact ⟨(k b (ne_of_none h2 h1)).trans x, y, z⟩⟩

def dLcL (w : D) (ws : List D) (g : DG) (tt : DT) (te : DE) (vs : List Nat) (env : Ev) (R : List D → Sg → Prop) : List D → List D → Sg → Prop
  | [], acc, s => asI s w = some ws ∧ R acc s
  | x :: r, acc, s => asI s w = some ws ∧ g x (wipeD env vs) s fun env2 s2 => tt env2 s2 fun b s3 => if b = true then te env2 s3 fun y s4 => acc.length < 1000000 ∧ dLcL w ws g tt te vs env R r (acc ++ [y]) s4 else dLcL w ws g tt te vs env R r acc s3
def dLc (ti : DI) (g : DG) (tt : DT) (te : DE) (vs : List Nat) : DA := fun env s R => ti env s fun w ws s1 => dLcL w ws g tt te vs env R ws [] s1
theorem dLcL_alive {w : D} {ws : List D} {g : DG} {tt : DT} {te : DE} {vs : List Nat} {env : Ev} {R : List D → Sg → Prop} {l acc : List D} {s : Sg} (h : dLcL w ws g tt te vs env R l acc s) : asI s w = some ws := by cases l <;> exact h.1
theorem mil1 {n : Nat} (h : n < 1000000) : n < sizeLine := Nat.lt_of_lt_of_le h mil
theorem lc_imp {K : PySem.W.Frag} {ti : DI} {g : DG} {gv : TG} {tt : DT} {te : DE} {vs : List Nat} (gi : GI K g gv) (wi : Wi vs gv) : ∀ σ H Q, tNew (liftA K (dLc ti g tt te vs)) σ H Q → tLc (liftI K ti) gv (liftT K tt) (liftE K te) vs σ H Q := fun σ H Q ⟨env, s, R, h1, h2, h3, h4⟩ => by
  refine ⟨env, s, _, h1, h2, h3, fun w ws s1 H1 J q e1 m1 hw ok => ?_⟩
  intro L hL
  refine ⟨fun i m H' => m = ws.length - i ∧ i ≤ ws.length ∧ ∃ s' acc us, H' L = some (.lst us) ∧ Reps K H' acc us ∧ MRep K H' s' ∧ s'.M L = none ∧ L ∉ s'.pv ∧ Stp H1 s1 H' s' ∧ dLcL w ws g tt te vs env R (ws.drop i) acc s',
    ⟨_, rfl, Nat.zero_le _, s1, [], [], upd_same, rfl, m1.new hL, m1.free hL, m1.npv hL, .new hL, q⟩, ?_⟩
  rintro i m H' ⟨rfl, hi, s', acc, us, z1, z2, z3, z4, z5, z6, z7⟩
  obtain ⟨o1, o2⟩ := ok H' s' z6.ext z3 (dLcL_alive z7) i
  have mu : Mut (H' L) := by rw [z1]; trivial
  by_cases hlt : i < ws.length
  · obtain ⟨go, yl⟩ := o1 ws[i] (by simp [hlt])
    rw [List.drop_eq_getElem_cons hlt] at z7
    refine .inr ⟨go, fun H2 => ∃ s2 acc2 us2, H2 L = some (.lst us2) ∧ Reps K H2 acc2 us2 ∧ MRep K H2 s2 ∧ s2.M L = none ∧ L ∉ s2.pv ∧ Stp H1 s1 H2 s2 ∧ dLcL w ws g tt te vs env R (ws.drop (i + 1)) acc2 s2, fun H2 z => ⟨ws.length - (i + 1), by omega, rfl, hlt, z⟩, fun v H2 y => ?_⟩
    obtain ⟨rv, e2, m2, kp⟩ := yl v H2 y
    refine wi.mono _ _ _ _ _ (fun σ2 H3 z => ⟨z.1.trans (wipe_idem vs fun _ h => h), z.2⟩) (wi.wi _ _ _ _ ?_)
    refine gi _ _ _ _ ⟨ws[i], wipeD env vs, s', _, rv, REnv.wipe (((h1.ext e1.ext).ext z6.ext).ext e2.ext) vs, m2, z7.2, fun env2 s2 σ2 H3 q2 e3 m3 r3 => ?_⟩
    refine ⟨env2, s2, _, r3, m3, q2, fun b s3 H4 q3 e4 m4 => ?_⟩
    cases b with
    | true =>
      rw [if_pos rfl] at q3 ⊢
      refine ⟨env2, s3, _, r3.ext e4.ext, m4, q3, fun yy s4 v5 H5 q5 e5 m5 r5 => ?_⟩
      have et := e2.trans (e3.trans (e4.trans e5))
      obtain ⟨f1, f2, f3⟩ := et.fr L _ z1 trivial z4 z5
      have mu5 : Mut (H5 L) := by rw [f1]; trivial
      have ex : Ext H5 (upd H5 L (.lst (us ++ [v5]))) := .put mu5
      have rs := Reps.append (Reps.ext et.ext _ _ z2) (show Reps K H5 [yy] [v5] from ⟨v5, [], rfl, r5, rfl⟩)
      exact ⟨us, f1, by rw [← z2.len]; exact mil1 q5.1, s4, acc ++ [yy], us ++ [v5], upd_same, Reps.ext ex _ _ rs, m5.side ex (fun b hb => upd_ne hb) f2 f3, f2, f3, (z6.trans et).side ex hL fun b hb => upd_ne hb, q5.2⟩
    | false =>
      rw [if_neg Bool.false_ne_true] at q3 ⊢
      have et := e2.trans (e3.trans e4)
      obtain ⟨f1, f2, f3⟩ := et.fr L _ z1 trivial z4 z5
      exact ⟨s3, acc, us, f1, Reps.ext et.ext _ _ z2, m4, f2, f3, z6.trans et, q3⟩
  · have ei : i = ws.length := by omega
    subst ei
    rw [List.drop_length] at z7
    refine .inl ⟨o2 (Nat.le_refl _), ?_⟩
    have := h4 acc s' us (hid H' L) z7.2 (e1.trans (z6.side (ext_hid mu) hL fun b hb => hid_ne hb)) (z3.side (ext_hid mu) (fun b hb => hid_ne hb) z4 z5) (Reps.ext (ext_hid mu) _ _ z2) L hid_same
    rw [hid_back z1] at this
    exact this
section
variable {X : Cx}
abbrev PDTs (X : Cx) (ifs : List Expr) (t : DT) : Prop := PTs X ifs (liftT X.K t)
def dYes : DT := fun _ s R => R true s
theorem pdts_nil : PDTs X [] dYes := ⟨fun pins s σ H Q I ⟨env, sg, R, h1, h2, h3, h4⟩ => pts_nil.run pins s σ H Q I (h4 true sg H h3 (.refl _ _) h2)⟩
theorem pdts_one {c : Expr} {t : DT} (h : PDT X c t) : PDTs X [c] t := pts_one h
theorem nl_lc {elt tg iter : Expr} {ifs : List Expr} {scope : Scope} {own : List (Str × Nat)} {pos : Pos} {ti : DI} {g : DG} {gv : TG} {tt : DT} {te : DE} (gi : GI X.K g gv) (wi : Wi (own.map (·.2)) gv) (hc : X.calm = true) (hN : X.N.Nodup) (hi : PDI X tg iter ti) (ok : BlkOk X.N X.env.scope scope own)
    (hg : ∀ (s : Shared) (H : Hp) (C : Addr) (cl : List (Str × Addr)) (fp : List Addr), PG (X.blk s H scope (compEnvC scope cl C X.env) fp) tg gv) (ht : ∀ (s : Shared) (H : Hp) (C : Addr) (cl : List (Str × Addr)) (fp : List Addr), PDTs (X.blk s H scope (compEnvC scope cl C X.env) fp) ifs tt)
    (he : ∀ (s : Shared) (H : Hp) (C : Addr) (cl : List (Str × Addr)) (fp : List Addr), PD (X.blk s H scope (compEnvC scope cl C X.env) fp) elt te) (hs : ∀ x, foldedSetIterable iter X.env x = pure x := by intro _; rfl) :
    PNL X (.ListComp elt [⟨tg, iter, ifs, 0⟩] scope pos) (dLc ti g tt te (own.map (·.2))) := pe_imp (pe_lc hc hN hi ok hg ht he hs) (lc_imp gi wi)
/-- name = [..], the list a value -/
theorem pd_setF {st : Stmt} {t : TE} {dt : DA} {i : Nat} (h : PS X st (tAsg t (L2.gName i))) (ht : ∀ σ H Q, tNew (liftA X.K dt) σ H Q → t σ H Q) : PDS X st (dSet i (dF dt)) := ⟨fun pins s σ H DE0 I ⟨env, sg, DD, h1, h2, h3, h4⟩ => by
  refine wpAny_mono (h.run pins s σ H { nx := fun σ' H' => ∃ (p : Addr) (vs : List V) (ws : List D) (s1 : Sg) (H1 : Hp), σ' = σ.set i (some (V.ref p)) ∧ H' = upd H1 p (HO.lst vs) ∧ H1 p = none ∧ DD.nx (env.set i (some (D.lst ws))) s1 ∧ Stp H sg H1 s1 ∧ MRep X.K H1 s1 ∧ Reps X.K H1 ws vs, rt := DE0.rt, bk := DE0.bk, ct := DE0.ct } I ?_) (fun f s' hf => ?_) fun _ _ z => z
  · exact ht σ H _ ⟨env, sg, _, h1, h2, h3, fun ws s1 vs H1 q e m r p hp => ⟨p, vs, ws, s1, H1, rfl, rfl, hp, q, e, m, r⟩⟩
  · cases f with
    | next =>
      obtain ⟨σ', H', I', p, vs, ws, s1, H1, rfl, rfl, hp, q, e, m, r⟩ := hf
      obtain ⟨o, I2⟩ := inv_freeze I' (upd_same (o := HO.lst vs)) trivial
      rw [upd_upd] at I2
      exact ⟨_, _, I2, h4.nx _ s1 _ _ q (e.trans (.new hp)) (m.new hp) (((h1.ext e.ext).ext (.new hp)).set i ⟨p, vs, rfl, .inl (.inr ⟨o, fz_frz upd_same⟩), Reps.ext (.new hp) _ _ r⟩)⟩
    | brk => exact hf
    | cont => exact hf
    | ret u => exact hf⟩
theorem pd_setM {st : Stmt} {t : TE} {dt : DA} {i : Nat} (h : PS X st (tAsg t (L2.gName i))) (ht : ∀ σ H Q, tNew (liftA X.K dt) σ H Q → t σ H Q) : PDS X st (dSet i (dM dt)) :=
  ps_imp h fun D σ H ⟨env, s, DD, h1, h2, h3, h4⟩ => ht σ H _ ⟨env, s, _, h1, h2, h3, fun ws s1 vs H1 q e m r p hp =>
    h4.nx _ _ _ _ (q p (m.free hp)) (e.trans (.put (.inl hp))) (m.write (.inl hp) (fun _ => nofun) ⟨vs, upd_same, Reps.ext (.new hp) _ _ r⟩) (((h1.ext e.ext).ext (.new hp)).set i rfl)⟩
end
end Dz
namespace Dz
open PySem PySem.Spec PyProof.Rows L2

/-! ### a value, or a new list that is locked -/
def tFrzO (t : TE) : TE := fun σ H Q => t σ H fun v H1 => Q v H1 ∨ ∃ a z, v = .ref a ∧ H1 a = some z ∧ Mut (some z) ∧ ∀ o, Q v (upd H1 a (.frz o z))
section
variable {X : Cx}
theorem pe_frzO {e : Expr} {t : TE} (h : PE X e t) : PE X e (tFrzO t) := ⟨fun pins s σ H Q I q => thn (h.run pins s σ H _ I q) fun u s' ⟨v, H1, I1, r, k⟩ => by
  rcases k with k | ⟨a, z, e1, e2, e3, k⟩
  · exact ⟨v, H1, I1, r, k⟩
  · obtain ⟨o, I2⟩ := inv_freeze I1 e2 e3
    exact ⟨v, _, I2, r, k o⟩⟩
/-- Q behind a new list that is locked at once -/
theorem frz_new {K : PySem.W.Frag} {H H1 : Hp} {s s1 : Sg} {R : KD} {Q : VK} {ws : List D} {vs : List V} {p : Addr} (h4 : Post K H s R Q) (q : R (.lst ws) s1) (e : Stp H s H1 s1) (m : MRep K H1 s1) (r : Reps K H1 ws vs) (hp : H1 p = none) :
    ∃ a z, V.ref p = .ref a ∧ upd H1 p (.lst vs) a = some z ∧ Mut (some z) ∧ ∀ o, Q (.ref p) (upd (upd H1 p (.lst vs)) a (.frz o z)) :=
  ⟨p, _, rfl, upd_same, trivial, fun o => by
    rw [upd_upd]
    exact h4 (.lst ws) s1 (.ref p) _ q (e.trans (.new hp)) (m.new hp) ⟨p, vs, rfl, .inl (.inr ⟨o, fz_frz upd_same⟩), Reps.ext (.new hp) _ _ r⟩⟩
/-- a + b of anything; lists give a locked list -/
def rAddU : D2 := fun x y s R => match x, y with
  | .int i, .int j => R (.int (i + j)) s
  | .str a, .str b => a.length + b.length ≤ 1000000 ∧ R (.str (a ++ b)) s
  | .tup a, .tup b => a.length + b.length ≤ 1000000 ∧ R (.tup (a ++ b)) s
  | x, y => (match asL s x, asL s y with
    | some a, some b => a.length + b.length ≤ 1000000 ∧ R (.lst (a ++ b)) s
    | _, _ => False)
theorem pd_add {a b : Expr} {ta tb : DE} {pos : Pos} (ha : PD X a ta) (hb : PD X b tb) : PD X (.BinOp a .Add b pos) (dOp rAddU ta tb) :=
  pe_imp (pe_frzO (pe_op ((op_add.or op_add_str).or (op_catA.or op_catS)) ha hb)) fun σ H Q ⟨env, s, R, h1, h2, h3, h4⟩ => by
    refine ⟨env, s, _, h1, h2, h3, fun x s1 v H1 q e1 m1 r1 => ⟨env, s1, _, h1.ext e1.ext, m1, q, fun y s2 u H2 q2 e2 m r2 => ?_⟩⟩
    have r1' := Rep.ext e2.ext _ _ r1
    have e12 := e1.trans e2
    unfold rAddU at q2
    split at q2
    · rename_i i j
      exact .inl (.inl ⟨i, j, r1', r2, .inl (h4 _ _ _ _ q2 e12 m rfl)⟩)
    · rename_i a b
      exact .inl (.inr ⟨a, b, r1', r2, Nat.le_trans q2.1 mil, .inl (h4 _ _ _ _ q2.2 e12 m rfl)⟩)
    · rename_i ws us
      obtain ⟨a, vs, rfl, f1, q1⟩ := r1'
      obtain ⟨b, ts, rfl, f2, g2⟩ := r2
      have hl : vs.length + ts.length ≤ sizeLine := by rw [← q1.len, ← g2.len]; exact Nat.le_trans q2.1 mil
      refine .inr (.inl ⟨a, b, vs, ts, rfl, rfl, f1, f2, hl, fun e => .inl ?_, fun _ e => .inl ?_, fun _ _ q hq => .inl ?_⟩)
      · subst e
        have e0 : ws = [] := List.length_eq_zero_iff.mp q1.len
        subst e0
        exact h4 _ _ _ _ q2.2 e12 m ⟨b, ts, rfl, f2, g2⟩
      · subst e
        have e0 : us = [] := List.length_eq_zero_iff.mp g2.len
        subst e0
        exact h4 _ _ _ _ q2.2 e12 m ⟨a, vs, rfl, f1, by rw [List.append_nil]; exact q1⟩
      · exact h4 _ _ _ _ q2.2 (e12.trans (.new hq)) (m.new hq) ⟨q, vs ++ ts, rfl, .of upd_same, Reps.ext (.new hq) _ _ (q1.append g2)⟩
    · split at q2
      · rename_i as bs ea eb
        obtain ⟨l, vs, rfl, f1, g1⟩ := asL_sq ea r1' m
        obtain ⟨l2, ts, rfl, f2, g2⟩ := asL_sq eb r2 m
        exact .inr (.inr ⟨l, l2, vs, ts, rfl, rfl, f1, f2, by rw [← g1.len, ← g2.len]; exact Nat.le_trans q2.1 mil, fun p hp => .inr (frz_new h4 q2.2 e12 m (g1.append g2) hp)⟩)
      · exact q2.elim
/-- a * b: ints; a list that was just made and an int -/
def rMulU : D2 := fun x y s R => match x, y with
  | .int i, .int j => CMul i j ∧ R (.int (i * j)) s
  | .ref l, .int k => (match s.M l with
    | some (.lst ws) => -1000000 ≤ k ∧ k ≤ 1000000 ∧ ws.length * k.toNat ≤ 1000000 ∧ R (.lst (List.replicate k.toNat ws).flatten) (s.del l)
    | _ => False)
  | _, _ => False
theorem del_sub {s : Sg} {l : Addr} : ∀ b u, (s.del l).M b = some u → s.M b = some u := fun b u e => by
  by_cases hb : b = l
  · subst hb; rw [show (s.del b).M b = none from Mm.del_same] at e; cases e
  · rw [show (s.del l).M b = s.M b from Mm.del_ne hb] at e; exact e
theorem pd_mul {a b : Expr} {ta tb : DE} {pos : Pos} (ha : PD X a ta) (hb : PD X b tb) : PD X (.BinOp a .Mult b pos) (dOp rMulU ta tb) :=
  pe_imp (pe_frzO (pe_op (op_mul.or op_rep) ha hb)) fun σ H Q ⟨env, s, R, h1, h2, h3, h4⟩ => by
    refine ⟨env, s, _, h1, h2, h3, fun x s1 v H1 q e1 m1 r1 => ⟨env, s1, _, h1.ext e1.ext, m1, q, fun y s2 u H2 q2 e2 m r2 => ?_⟩⟩
    have r1' := Rep.ext e2.ext _ _ r1
    have e12 := e1.trans e2
    unfold rMulU at q2
    split at q2
    · rename_i i j
      exact .inl ⟨i, j, r1', r2, q2.1, .inl (h4 _ _ _ _ q2.2 e12 m rfl)⟩
    · rename_i l k
      cases (show v = .ref l from r1')
      cases (show u = .int k from r2)
      cases hm : s2.M l with
      | none => rw [hm] at q2; exact q2.elim
      | some o =>
        rw [hm] at q2
        cases o with
        | lst ws =>
          obtain ⟨vs, z1, z2⟩ := m.at_ l _ hm
          obtain ⟨c1, c2, c3, c4⟩ := q2
          exact .inr ⟨l, k, vs, rfl, rfl, z1, by omega, by omega, by rw [← z2.len]; exact Nat.le_trans c3 mil, fun p hp => .inr (frz_new h4 c4 (e12.trans (.weak del_sub rfl)) (m.weak del_sub (Nat.le_refl _) rfl) (z2.rep _) hp)⟩
        | _ => exact q2.elim
    · exact q2.elim

/-! ### subscripts -/
theorem atI_len {α β : Type} {xs : List α} {ys : List β} (h : xs.length = ys.length) (i : Int) : ixN xs.length i = ixN ys.length i := by rw [h]
theorem Reps.atI {K : PySem.W.Frag} {H : Hp} {ws : List D} {vs : List V} {i : Int} {w : D} (r : Reps K H ws vs) (h : L2.atI ws i = some w) : ∃ v, L2.atI vs i = some v ∧ Rep K H w v := by
  unfold L2.atI at h ⊢
  rw [r.len] at h
  obtain ⟨j, e1, e2⟩ := Option.bind_eq_some_iff.mp h
  obtain ⟨v, e3, e4⟩ := r.get e2
  exact ⟨v, Option.bind_eq_some_iff.mpr ⟨j, e1, e3⟩, e4⟩
def rIxU : D2 := fun x y s R => match y with
  | .int i => (match x with
    | .str z => z.length ≤ 1000000 ∧ (match L2.atI z.cps.toList i with
      | some c => R (.str ⟨#[c]⟩) s
      | none => False)
    | x => (match asQ s x with
      | some ws => (match L2.atI ws i with
        | some w => R w s
        | none => False)
      | none => False))
  | _ => False
theorem ix_imp {r r' : R2} (h : IxR X r) (hi : ∀ x y H Q, r' x y H Q → r x y H Q) : IxR X r' := fun va sl pins s σ H x y v u Q I rx ry q hs => h va sl pins s σ H x y v u Q I rx ry (hi x y H Q q) hs
theorem pd_ix {a b : Expr} {ta tb : DE} {pos : Pos} (ha : PD X a ta) (hb : PD X b tb) (hs : PlainIx b) : PD X (.Subscript a b pos) (dOp rIxU ta tb) := by
  refine pe_imp (pe_ix (r := lift2 X.K rIxU) (ix_imp ix_seq fun x y H Q ⟨w, u, s, R, r1, r2, m, h, p⟩ => ?_) ha hb hs) (dOp_imp X.K rIxU ta tb)
  unfold rIxU at h
  split at h
  · rename_i i
    split at h
    · rename_i z
      split at h
      · rename_i c hc
        exact .inr (.inr ⟨z, i, c, r1, r2, Nat.le_trans h.1 mil, hc, p _ _ _ _ h.2 (.refl _ _) m rfl⟩)
      · exact h.2.elim
    · split at h
      · rename_i ws hw
        split at h
        · rename_i x' hx
          obtain ⟨a, vs, e, f, g⟩ := asQ_sq hw r1 m
          obtain ⟨v', e1, e2⟩ := g.atI hx
          rcases f with f | f
          · exact .inl ⟨a, vs, i, v', e, r2, f, e1, p _ _ _ _ h (.refl _ _) m e2⟩
          · exact .inr (.inl ⟨a, vs, i, v', e, r2, f, e1, p _ _ _ _ h (.refl _ _) m e2⟩)
        · exact h.elim
      · exact h.elim
  · exact h.elim
/-! slices -/
abbrev DO := Ev → Sg → (Option Int → Sg → Prop) → Prop
def dNoPart : DO := fun _ s R => R none s
def dPart (t : DE) : DO := fun env s R => t env s fun w s1 => match w with
  | .int i => R (some i) s1
  | _ => False
def PostO (K : PySem.W.Frag) (H : Hp) (s0 : Sg) (R : Option Int → Sg → Prop) (Q : Option Int → Hp → Prop) : Prop := ∀ b s H', R b s → Stp H s0 H' s → MRep K H' s → Q b H'
def liftO (K : PySem.W.Frag) (t : DO) : TO := fun σ H Q => ∃ env s R, REnv K H env σ ∧ MRep K H s ∧ t env s R ∧ PostO K H s R Q
abbrev PDO (X : Cx) (e : Option Expr) (t : DO) : Prop := PO X e (liftO X.K t)
theorem po_imp {e : Option Expr} {t t' : TO} (h : PO X e t) (hi : ∀ σ H Q, t' σ H Q → t σ H Q) : PO X e t' := by
  obtain ⟨run⟩ := h
  constructor
  intros
  apply run
  · assumption
  · apply hi; assumption
theorem pdo_none : PDO X none dNoPart := po_imp po_none fun σ H Q ⟨env, s, R, h1, h2, h3, h4⟩ => h4 none s H h3 (.refl _ _) h2
theorem pdo_some {e : Expr} {t : DE} (h : PD X e t) : PDO X (some e) (dPart t) := po_imp (po_some h) fun σ H Q ⟨env, s, R, h1, h2, h3, h4⟩ => ⟨env, s, _, h1, h2, h3, fun w s1 v H1 q e m r => by
  split at q
  · rename_i i
    exact ⟨i, r, h4 _ s1 H1 q e m⟩
  · exact q.elim⟩
def cutD (xs : List D) (lo hi : Option Int) : List D := (xs.drop (HT.sIx xs.length 0 lo)).take (HT.sIx xs.length xs.length hi - HT.sIx xs.length 0 lo)
theorem Reps.cut {K : PySem.W.Frag} {H : Hp} {ws : List D} {vs : List V} (r : Reps K H ws vs) (lo hi : Option Int) : Reps K H (cutD ws lo hi) (cutV vs lo hi) := by
  unfold cutD cutV
  rw [r.len]
  exact (r.drop _).take _
theorem cutD_whole {ws : List D} {lo hi : Option Int} (h : HT.sIx ws.length 0 lo = 0 ∧ HT.sIx ws.length ws.length hi = ws.length) : cutD ws lo hi = ws := by
  unfold cutD
  rw [h.1, h.2]
  simp
def rSlU (x : D) (lo hi : Option Int) (s : Sg) (R : KD) : Prop := match x with
  | .str z => z.length ≤ 1000000 ∧ R (.str (cutS z lo hi)) s
  | .tup ws => R (.tup (cutD ws lo hi)) s
  | x => (match asL s x with
    | some ws => R (.lst (cutD ws lo hi)) s
    | none => False)
def dSl (te : DE) (tl th : DO) : DE := fun env s R => te env s fun x s1 => tl env s1 fun l s2 => th env s2 fun u s3 => rSlU x l u s3 R
theorem pd_sl {e : Expr} {lo hi : Option Expr} {te : DE} {tl th : DO} {p2 pos : Pos} (he : PD X e te) (hl : PDO X lo tl) (hu : PDO X hi th) : PD X (.Subscript e (.Slice lo hi none p2) pos) (dSl te tl th) :=
  pe_imp (pe_frzO (pe_slice (sl_str.or (sl_tupA.or sl_list)) he hl hu)) fun σ H Q ⟨env, s, R, h1, h2, h3, h4⟩ => by
    refine ⟨env, s, _, h1, h2, h3, fun x s1 v H1 q e1 m1 r1 => ⟨env, s1, _, h1.ext e1.ext, m1, q, fun l s2 H2 q2 e2 m2 => ⟨env, s2, _, (h1.ext e1.ext).ext e2.ext, m2, q2, fun u s3 H3 q3 e3 m3 => ?_⟩⟩⟩
    have r := Rep.ext e3.ext _ _ (Rep.ext e2.ext _ _ r1)
    have e := (e1.trans e2).trans e3
    unfold rSlU at q3
    split at q3
    · rename_i z
      exact .inl ⟨z, r, Nat.le_trans q3.1 mil, .inl (h4 _ _ _ _ q3.2 e m3 rfl)⟩
    · rename_i ws
      obtain ⟨a, vs, rfl, f, g⟩ := r
      refine .inr (.inl ⟨a, vs, rfl, f, fun c => .inl ?_, fun c p hp => .inl ?_⟩)
      · rw [← g.len] at c
        rw [cutD_whole c] at q3
        exact h4 _ _ _ _ q3 e m3 ⟨a, vs, rfl, f, g⟩
      · exact h4 _ _ _ _ q3 (e.trans (.new hp)) (m3.new hp) ⟨p, _, rfl, .of upd_same, Reps.ext (.new hp) _ _ (g.cut l u)⟩
    · split at q3
      · rename_i ws hw
        obtain ⟨a, vs, rfl, f, g⟩ := asL_sq hw r m3
        exact .inr (.inr ⟨a, vs, rfl, f, fun p hp => .inr (frz_new h4 q3 e m3 (g.cut l u) hp)⟩)
      · exact q3.elim
/-- xs[::-1] of a list -/
def dRev (te : DE) : DE := fun env s R => te env s fun x s1 => match asL s1 x with
  | some ws => R (.lst ws.reverse) s1
  | none => False
theorem pd_rev {e : Expr} {te : DE} {k : Nat} {p1 p2 p3 pos : Pos} (he : PD X e te) : PD X (.Subscript e (.Slice none none (some (.UnaryOp .USub (.Constant (.int 1) k p1) p2)) p3) pos) (dRev te) :=
  pe_imp (pe_frzO (pe_revL he)) fun σ H Q ⟨env, s, R, h1, h2, h3, h4⟩ => by
    refine ⟨env, s, _, h1, h2, h3, fun x s1 v H1 q e1 m1 r1 => ?_⟩
    split at q
    · rename_i ws hw
      obtain ⟨a, vs, rfl, f, g⟩ := asL_sq hw r1 m1
      exact ⟨a, vs, rfl, f, fun p hp => .inr (frz_new h4 q e1 m1 g.reverse hp)⟩
    · exact q.elim

/-! ### built-in functions -/
theorem call_imp {f : Value} {r r' : List V → Hp → VK → Prop} (h : CallR X f r) (hi : ∀ xs H Q, r' xs H Q → r xs H Q) : CallR X f r' := fun pins s σ H xs us Q I r q => h pins s σ H xs us Q I r (hi xs H Q q)
theorem dCB_imp (K : PySem.W.Frag) (r : DL) (ta : DA) : ∀ σ H Q, liftE K (dCB r ta) σ H Q → tCB (liftL K r) (liftA K ta) σ H Q := fun σ H Q ⟨env, s, R, h1, h2, h3, h4⟩ =>
  ⟨env, s, _, h1, h2, h3, fun ws s1 vs H1 q e1 m1 r1 => ⟨ws, s1, R, r1, m1, q, h4.ext e1⟩⟩
section
variable {x : Str} {p pos : Pos} {e : Expr} {es : List Expr} {t : DA} {id T : String} {r : DL}
theorem pd_callB (hc : CallR X (.builtin id) (liftL X.K r)) (hg : Gl X x) (hm : X.mg x = none) (hv : bootBuiltins x = some (.builtin id)) (ha : PDA X (e :: es) t) (hn : x ≠ "__name__" := by decide) (hdb : (x == ("__debug__" : Str)) = false := by decide)
    (he : starEach (e :: es) X.env = (false, eval e X.env) :: starEach es X.env := by rfl) (hpl : (backTo pos (starEach es X.env)).any (·.1) = false := by rfl) : PD X (.Call (.Name x p) (e :: es) [] pos) (dCB r t) :=
  pe_imp (pe_callB hc hg hm hv ha hn hdb he hpl) (dCB_imp X.K r t)
theorem pd_callTy (hc : CallR X (.type T) (liftL X.K r)) (hg : Gl X x) (hm : X.mg x = none) (hv : bootBuiltins x = some (.type T)) (ha : PDA X (e :: es) t) (hn : x ≠ "__name__" := by decide) (hdb : (x == ("__debug__" : Str)) = false := by decide)
    (he : starEach (e :: es) X.env = (false, eval e X.env) :: starEach es X.env := by rfl) (hpl : (backTo pos (starEach es X.env)).any (·.1) = false := by rfl) : PD X (.Call (.Name x p) (e :: es) [] pos) (dCB r t) :=
  pe_imp (pe_callTy hc hg hm hv ha hn hdb he hpl) (dCB_imp X.K r t)
end
def rLenU : DL := fun ws s R => match ws with
  | [.str z] => z.length ≤ 1000000 ∧ R (.int z.length) s
  | [w] => (match asQ s w with
    | some us => R (.int us.length) s
    | none => False)
  | _ => False
theorem cd_len : CallR X (.builtin "len") (liftL X.K rLenU) := by
  refine call_imp (call_len_str.or call_len_seq) fun xs H Q ⟨ws, s, R, r1, m, h, p⟩ => ?_
  unfold rLenU at h
  split at h
  · rename_i z
    obtain ⟨v, r, rfl, r2, r3⟩ := r1
    cases (show r = [] from r3)
    exact .inl ⟨z, by rw [(show v = .str z from r2)], Nat.le_trans h.1 mil, p _ _ _ _ h.2 (.refl _ _) m rfl⟩
  · rename_i w _
    obtain ⟨v, r, rfl, r2, r3⟩ := r1
    cases (show r = [] from r3)
    split at h
    · rename_i us hu
      obtain ⟨a, vs, rfl, f, g⟩ := asQ_sq hu r2 m
      exact .inr ⟨a, vs, rfl, f, by rw [← g.len]; exact p _ _ _ _ h (.refl _ _) m rfl⟩
    · exact h.elim
  · exact h.elim
def rAbs : DL := fun ws s R => match ws with
  | [.int i] => R (.int (if i < 0 then -i else i)) s
  | _ => False
theorem cd_abs : CallR X (.builtin "abs") (liftL X.K rAbs) := by
  refine call_imp call_abs fun xs H Q ⟨ws, s, R, r1, m, h, p⟩ => ?_
  unfold rAbs at h
  split at h
  · rename_i i
    obtain ⟨v, r, rfl, r2, r3⟩ := r1
    cases (show r = [] from r3)
    exact ⟨i, by rw [(show v = .int i from r2)], p _ _ _ _ h (.refl _ _) m rfl⟩
  · exact h.elim
def rInt2 (g : Int → Int → Int) : DL := fun ws s R => match ws with
  | [.int i, .int j] => R (.int (g i j)) s
  | _ => False
theorem cd_max2 (hc : X.calm = true) : CallR X (.builtin "max") (liftL X.K (rInt2 fun i j => if j > i then j else i)) := by
  refine call_imp (call_max2 hc) fun xs H Q ⟨ws, s, R, r1, m, h, p⟩ => ?_
  unfold rInt2 at h
  split at h
  · rename_i i j
    obtain ⟨v, r, rfl, r2, v', r', rfl, r3, r4⟩ := r1
    cases (show r' = [] from r4)
    exact ⟨i, j, by rw [(show v = .int i from r2), (show v' = .int j from r3)], p _ _ _ _ h (.refl _ _) m rfl⟩
  · exact h.elim
theorem cd_min2 (hc : X.calm = true) : CallR X (.builtin "min") (liftL X.K (rInt2 fun i j => if j < i then j else i)) := by
  refine call_imp (call_min2 hc) fun xs H Q ⟨ws, s, R, r1, m, h, p⟩ => ?_
  unfold rInt2 at h
  split at h
  · rename_i i j
    obtain ⟨v, r, rfl, r2, v', r', rfl, r3, r4⟩ := r1
    cases (show r' = [] from r4)
    exact ⟨i, j, by rw [(show v = .int i from r2), (show v' = .int j from r3)], p _ _ _ _ h (.refl _ _) m rfl⟩
  · exact h.elim
def rToInt : DL := fun ws s R => match ws with
  | [.int i] => R (.int i) s
  | [.bl b] => R (.int (if b then 1 else 0)) s
  | _ => False
theorem cd_int : CallR X (.type "int") (liftL X.K rToInt) := by
  refine call_imp call_int1 fun xs H Q ⟨ws, s, R, r1, m, h, p⟩ => ?_
  unfold rToInt at h
  split at h
  · rename_i i
    obtain ⟨v, r, rfl, r2, r3⟩ := r1
    cases (show r = [] from r3)
    exact .inl ⟨i, by rw [(show v = .int i from r2)], p _ _ _ _ h (.refl _ _) m rfl⟩
  · rename_i b
    obtain ⟨v, r, rfl, r2, r3⟩ := r1
    cases (show r = [] from r3)
    exact .inr ⟨b, by rw [(show v = .bl b from r2)], p _ _ _ _ h (.refl _ _) m rfl⟩
  · exact h.elim
def rStrI : DL := fun ws s R => match ws with
  | [.int i] => i.natAbs.log2 < 1920 ∧ R (.str (toString i)) s
  | _ => False
theorem cd_str : CallR X (.type "str") (liftL X.K rStrI) := by
  refine call_imp call_str_int fun xs H Q ⟨ws, s, R, r1, m, h, p⟩ => ?_
  unfold rStrI at h
  split at h
  · rename_i i
    obtain ⟨v, r, rfl, r2, r3⟩ := r1
    cases (show r = [] from r3)
    exact ⟨i, by rw [(show v = .int i from r2)], h.1, p _ _ _ _ h.2 (.refl _ _) m rfl⟩
  · exact h.elim
/-- sums, alls of a list -/
def rSumU : DL := fun ws s R => ∃ (w : D) (ns : List Int), ws = [w] ∧ asL s w = some (ns.map D.int) ∧ R (.int ns.sum) s
theorem cd_sum (hc : X.calm = true) : CallR X (.builtin "sum") (liftL X.K rSumU) := by
  refine call_imp (cr_sum hc) fun xs H Q ⟨ws, s, R, r1, m, h, p⟩ => ?_
  obtain ⟨w, ns, rfl, hw, h⟩ := h
  obtain ⟨v, r, rfl, r2, r3⟩ := r1
  cases (show r = [] from r3)
  obtain ⟨a, vs, rfl, f, g⟩ := asL_sq hw r2 m
  cases g.ints
  exact ⟨a, ns, rfl, f, p _ _ _ _ h (.refl _ _) m rfl⟩
def rAllU (g : List Bool → Bool) : DL := fun ws s R => ∃ (w : D) (ns : List Bool), ws = [w] ∧ asL s w = some (ns.map D.bl) ∧ R (.bl (g ns)) s
theorem cd_all (hc : X.calm = true) : CallR X (.builtin "all") (liftL X.K (rAllU fun l => l.all id)) := by
  refine call_imp (cr_all hc) fun xs H Q ⟨ws, s, R, r1, m, h, p⟩ => ?_
  obtain ⟨w, ns, rfl, hw, h⟩ := h
  obtain ⟨v, r, rfl, r2, r3⟩ := r1
  cases (show r = [] from r3)
  obtain ⟨a, vs, rfl, f, g⟩ := asL_sq hw r2 m
  cases g.bls
  exact ⟨a, ns, rfl, f, p _ _ _ _ h (.refl _ _) m rfl⟩
theorem cd_any (hc : X.calm = true) : CallR X (.builtin "any") (liftL X.K (rAllU fun l => l.any id)) := by
  refine call_imp (cr_any hc) fun xs H Q ⟨ws, s, R, r1, m, h, p⟩ => ?_
  obtain ⟨w, ns, rfl, hw, h⟩ := h
  obtain ⟨v, r, rfl, r2, r3⟩ := r1
  cases (show r = [] from r3)
  obtain ⟨a, vs, rfl, f, g⟩ := asL_sq hw r2 m
  cases g.bls
  exact ⟨a, ns, rfl, f, p _ _ _ _ h (.refl _ _) m rfl⟩
end
end Dz
namespace Dz
open PySem PySem.Spec PyProof.Rows L2

/-! ### isinstance by built-in classes -/
def tyN (s : Sg) : D → Option String
  | .non => some "NoneType"
  | .bl _ => some "bool"
  | .int _ => some "int"
  | .str _ => some "str"
  | .tup _ => some "tuple"
  | .lst _ => some "list"
  | .dic _ _ => some "dict"
  | .ref a => (match s.M a with
    | some (.lst _) => some "list"
    | some (.dic _ _) => some "dict"
    | _ => none)
  | .ty _ => none
theorem tyN_ty {K : PySem.W.Frag} {H : Hp} {s : Sg} {w : D} {v : V} {n : String} (h : tyN s w = some n) (r : Rep K H w v) (m : MRep K H s) : TyX K H v (.type n) := by
  cases w with
  | non => cases h; cases r; exact .base .non
  | bl b => cases h; cases r; exact .base (.bl b)
  | int i => cases h; cases r; exact .base (.int i)
  | str x => cases h; cases r; exact .base (.str x)
  | tup ws =>
    cases h
    obtain ⟨a, vs, rfl, f, _⟩ := r
    rcases f with (f | ⟨o, f⟩) | ⟨o, its, n, f, c, _⟩
    · exact .base (.tup f)
    · exact .fTuple f
    · exact .kTuple f c
  | lst ws =>
    cases h
    obtain ⟨a, vs, rfl, f, _⟩ := r
    rcases f with (f | ⟨o, f⟩) | ⟨o, its, n, f, c, _⟩
    · obtain ⟨_, _, z, _⟩ := fz_some f; cases z
    · obtain ⟨_, _, z, q⟩ := fz_some f; cases z; exact .base (.frz q)
    · exact .kList f c
  | dic ks ws =>
    cases h
    obtain ⟨a, vs, o, rfl, f, _⟩ := r
    exact .fDict f
  | ref a =>
    cases (show v = .ref a from r)
    dsimp only [tyN] at h
    cases hm : s.M a with
    | none => rw [hm] at h; cases h
    | some o =>
      rw [hm] at h
      cases o with
      | lst us => cases h; obtain ⟨vs, e, _⟩ := m.at_ a _ hm; exact .base (.lst e)
      | dic ks us => cases h; obtain ⟨vs, e, _⟩ := m.at_ a _ hm; exact .base (.dK e)
      | _ => cases h
  | ty n => cases h
/-- is a thing of class a one of class b -/
def subT (a b : String) : Bool := a == b || (a == "bool" && b == "int")
def isiT (a : String) (cs : List String) : Bool := cs.any (subT a)
def tyOk (a : String) : Bool := a == "NoneType" || a == "bool" || a == "int" || a == "str" || a == "tuple" || a == "list" || a == "dict"
theorem kitB_sub {a b : String} (ha : tyOk a = true) (hb : tyOk b = true) : kitB a b = some (subT a b) := by
  simp only [tyOk, Bool.or_eq_true, beq_iff_eq] at ha hb
  rcases ha with (((((rfl | rfl) | rfl) | rfl) | rfl) | rfl) | rfl <;> rcases hb with (((((rfl | rfl) | rfl) | rfl) | rfl) | rfl) | rfl <;> decide +kernel
theorem tyN_ok {s : Sg} {w : D} {n : String} (h : tyN s w = some n) : tyOk n = true := by
  cases w with
  | ref a =>
    dsimp only [tyN] at h
    cases hm : s.M a with
    | none => rw [hm] at h; cases h
    | some o => rw [hm] at h; cases o <;> first | (cases h; rfl) | cases h
  | _ => first | (cases h; rfl) | cases h
def tyNames : List D → Option (List String)
  | [] => some []
  | .ty n :: r => (tyNames r).map fun l => n :: l
  | _ => none
def rIsi : DL := fun ws s R => match ws with
  | [x, .ty c] => (match tyN s x with
    | some n => tyOk c = true ∧ R (.bl (subT n c)) s
    | none => False)
  | [x, .tup cs] => (match tyN s x, tyNames cs with
    | some n, some l => l.all tyOk = true ∧ R (.bl (isiT n l)) s
    | _, _ => False)
  | _ => False
theorem kitAny_sub {K : PySem.W.Frag} {a : String} (ha : tyOk a = true) : ∀ {l : List String}, l.all tyOk = true → PySem.W.kitAny K (.type a) (l.map Value.type) = some (isiT a l)
  | [], _ => kitAny_nil
  | b :: l, h => by
    rw [List.all_cons, Bool.and_eq_true] at h
    refine kitAny_cons (kit_ty (kitB_sub ha h.1)) (fun e => ?_) (fun e => ?_)
    · rw [kitAny_sub ha h.2]
      unfold isiT
      rw [List.any_cons, e, Bool.false_or]
    · unfold isiT
      rw [List.any_cons, e, Bool.true_or]
theorem tyNames_cls {K : PySem.W.Frag} {H : Hp} : ∀ {cs : List D} {l : List String} {vs : List V}, tyNames cs = some l → Reps K H cs vs → Paired ClsV vs (l.map Value.type)
  | [], l, vs, h, r => by cases h; cases (show vs = [] from r); exact .nil
  | .ty n :: cs, l, vs, h, r => by
    unfold tyNames at h
    obtain ⟨l', e, rfl⟩ := Option.map_eq_some_iff.mp h
    obtain ⟨v, r', rfl, r1, r2⟩ := r
    cases (show v = .ty n from r1)
    exact .cons (.ty n) (tyNames_cls e r2)
section
variable {X : Cx}
theorem cd_isi : CallR X (.builtin "isinstance") (liftL X.K rIsi) := by
  intro pins s σ H xs us Q I rr ⟨ws, sg, R, r1, m, h, p⟩
  unfold rIsi at h
  split at h
  · rename_i x c
    obtain ⟨v, r, rfl, r2, v', r', rfl, r3, r4⟩ := r1
    cases (show r' = [] from r4)
    cases (show v' = .ty c from r3)
    split at h
    · rename_i n hn
      exact call_isi pins s σ H _ us Q I rr ⟨v, .ty c, .type n, .type c, _, rfl, .ty c, tyN_ty hn r2 m, kit_ty (kitB_sub (tyN_ok hn) h.1), p _ _ _ _ h.2 (.refl _ _) m rfl⟩
    · exact h.elim
  · rename_i x cs
    obtain ⟨v, r, rfl, r2, v', r', rfl, r3, r4⟩ := r1
    cases (show r' = [] from r4)
    obtain ⟨a, vs, rfl, f, g⟩ := r3
    split at h
    · rename_i n l hn hl
      have kt := kitAny_sub (K := X.K) (tyN_ok hn) h.1
      have pc := tyNames_cls hl g
      have fin := p _ _ (.bl (isiT n l)) _ h.2 (.refl _ _) m rfl
      rcases f with (f | ⟨o, f⟩) | f
      · exact call_isiT pins s σ H _ us Q I rr ⟨v, a, vs, .type n, l.map Value.type, _, rfl, f, pc, tyN_ty hn r2 m, kt, fin⟩
      all_goals
        obtain ⟨u1, u2, rfl, q1, q2⟩ := vals2 rr
        cases (show u2 = Value.ref a from q2)
        obtain ⟨P, Z, pz, hx⟩ := kit_of I q1 (tyN_ty hn r2 m)
        obtain ⟨its, rv, ⟨⟨oc, od, dt, sl⟩, h1, h2, nn, h3⟩, _⟩ := I.tuple (a := a) (xs := vs) (by first | exact .inl (.inr ⟨_, f⟩) | exact .inr f)
        have e3 := ClsV.all pc rv
        subst e3
        simp only at h2 h3
        subst h2 h3
        exact PySem.W.kia_tup Z I.kIn pz h1 kt hx fun tk => ⟨.bl _, H, I.tok tk, rfl, fin⟩
    · exact h.elim
  · exact h.elim

/-! ### repr -/
def rRepr : DL := fun ws s R => match ws with
  | [w] => (match pyOf s w with
    | some d => isDisplay d = true ∧ d.showable = true ∧ d.depth ≤ 60 ∧ d.shown.length ≤ 1000000 ∧ R (.str d.shown) s
    | none => False)
  | _ => False
theorem noDictD : ∀ {K : PySem.W.Frag} {H : Hp} {v : V} {d : PyData}, Dp K H v d → d.hasDict = false := by
  intro K H v d h
  refine Dp.rec (motive_1 := fun v d _ => d.hasDict = false) (motive_2 := fun vs ds _ => PyData.hasDictAll ds = false) ?_ ?_ ?_ ?_ ?_ ?_ ?_ ?_ h
  · simp [PyData.hasDict]
  · intro b; simp [PyData.hasDict]
  · intro b; simp [PyData.hasDict]
  · intro b; simp [PyData.hasDict]
  · intro a xs ds _ _ ih; simpa [PyData.hasDict] using ih
  · intro a xs ds _ _ ih; simpa [PyData.hasDict] using ih
  · simp [PyData.hasDictAll]
  · intro v vs d ds _ _ h1 h2; simp [PyData.hasDictAll, h1, h2]
theorem cd_repr {k : Nat} (hr : Room k X.A) (hg : X.A.guards = some []) : CallR X (.builtin "repr") (liftL X.K rRepr) := by
  intro pins s σ H xs us Q I rr ⟨ws, sg, R, r1, m, h, p⟩
  unfold rRepr at h
  split at h
  · rename_i w
    obtain ⟨v, r, rfl, r2, r3⟩ := r1
    cases (show r = [] from r3)
    split at h
    · rename_i d hd
      obtain ⟨c1, c2, c3, c4, c5⟩ := h
      have dp := pyOf_dp hd r2 m
      obtain ⟨u, rfl, ru⟩ := vals1 rr
      obtain ⟨as, rd⟩ := Dp.reads I d v u dp ru
      obtain ⟨a, rfl⟩ := isRef_of_reads rd c1
      have hu := hr.units
      exact repr_of_reads' rd c2 (PyData.noDict_hsm (noDictD dp)) hg (by omega) (fun _ _ e => e) (fun h' u' tk hk => ⟨.str d.shown, H, I.kept hk, ⟨u', rfl⟩, p _ _ _ _ c5 (.refl _ _) m rfl⟩) (Nat.le_trans c4 mil)
    · exact h.elim
  · exact h.elim

/-! ### new lists by calls -/
def tCBn (K : PySem.W.Frag) (r : List D → Sg → (List D → Sg → Prop) → Prop) (ta : DA) : DA := fun env s R => ta env s fun ws s1 => r ws s1 R
/-- what a call gives: a new list of these -/
def liftNL (K : PySem.W.Frag) (r : List D → Sg → (List D → Sg → Prop) → Prop) : List V → Hp → VK → Prop := fun xs H Q => ∃ ws s R, Reps K H ws xs ∧ MRep K H s ∧ r ws s R ∧ PostA K H s R fun vs H1 => ∀ p, H1 p = none → Q (.ref p) (upd H1 p (.lst vs))
abbrev DN := List D → Sg → (List D → Sg → Prop) → Prop
def dCN (r : DN) (ta : DA) : DA := fun env s R => ta env s fun ws s1 => r ws s1 R
theorem dCN_imp (K : PySem.W.Frag) (r : DN) (ta : DA) : ∀ σ H Q, tNew (liftA K (dCN r ta)) σ H Q → tCB (liftNL K r) (liftA K ta) σ H Q := fun σ H Q ⟨env, s, R, h1, h2, h3, h4⟩ =>
  ⟨env, s, _, h1, h2, h3, fun ws s1 vs H1 q e1 m1 r1 => ⟨ws, s1, R, r1, m1, q, h4.ext e1⟩⟩
section
variable {x : Str} {p pos : Pos} {e : Expr} {es : List Expr} {t : DA} {id T : String} {r : DN}
theorem nl_callB (hc : CallR X (.builtin id) (liftNL X.K r)) (hg : Gl X x) (hm : X.mg x = none) (hv : bootBuiltins x = some (.builtin id)) (ha : PDA X (e :: es) t) (hn : x ≠ "__name__" := by decide) (hdb : (x == ("__debug__" : Str)) = false := by decide)
    (he : starEach (e :: es) X.env = (false, eval e X.env) :: starEach es X.env := by rfl) (hpl : (backTo pos (starEach es X.env)).any (·.1) = false := by rfl) : PNL X (.Call (.Name x p) (e :: es) [] pos) (dCN r t) :=
  pe_imp (pe_callB hc hg hm hv ha hn hdb he hpl) (dCN_imp X.K r t)
theorem nl_callTy (hc : CallR X (.type T) (liftNL X.K r)) (hg : Gl X x) (hm : X.mg x = none) (hv : bootBuiltins x = some (.type T)) (ha : PDA X (e :: es) t) (hn : x ≠ "__name__" := by decide) (hdb : (x == ("__debug__" : Str)) = false := by decide)
    (he : starEach (e :: es) X.env = (false, eval e X.env) :: starEach es X.env := by rfl) (hpl : (backTo pos (starEach es X.env)).any (·.1) = false := by rfl) : PNL X (.Call (.Name x p) (e :: es) [] pos) (dCN r t) :=
  pe_imp (pe_callTy hc hg hm hv ha hn hdb he hpl) (dCN_imp X.K r t)
end
/-- list(x): of a list, a tuple, a text -/
def rListU : DN := fun ws s R => match ws with
  | [.str z] => z.length ≤ 1000000 ∧ R (z.cps.toList.map fun c => .str ⟨#[c]⟩) s
  | [w] => (match asQ s w with
    | some us => R us s
    | none => False)
  | _ => False
theorem cr_list_str (hc : X.calm = true) : CallR X (.type "list") (fun xs H Q => ∃ z : Str, xs = [.str z] ∧ z.length ≤ sizeLine ∧ ∀ p, H p = none → Q (.ref p) (upd H p (.lst (z.cps.toList.map fun c => .str ⟨#[c]⟩)))) := by
  intro pins s σ H xs us Q I r ⟨z, e, hz, q⟩
  subst e
  obtain ⟨u, rfl, t, rfl⟩ := vals1 r
  refine call_list_str (I.ok.hd hc) z t (hn := hz) fun h' tk acc c kp at_ its => ?_
  refine ⟨.ref _, _, I.laid (o := .lst (z.cps.toList.map fun c => .str ⟨#[c]⟩)) kp (Nat.le_refl _) ⟨by rw [List.length_map, Array.length_toList]; exact hz, acc.toList, c, ?_, by simpa using at_⟩, rfl, q _ I.fresh⟩
  have key : ∀ (j : Nat) (u : Value), acc.toList[j]? = some u → ∃ c, z.cps[j]? = some c ∧ RelV (.str ⟨#[c]⟩) u := fun j u hu => by
    obtain ⟨c, t, h1, rfl⟩ := its.2 j u (by simpa using hu)
    exact ⟨c, h1, t, rfl⟩
  have len : acc.toList.length = z.cps.toList.length := by simp [its.1]
  have gen : ∀ (cs : List Nat) (us : List Value), us.length = cs.length → (∀ (j : Nat) (u : Value), us[j]? = some u → ∃ c, cs[j]? = some c ∧ RelV (.str ⟨#[c]⟩) u) → Vals (cs.map fun c => V.str ⟨#[c]⟩) us := by
    intro cs
    induction cs with
    | nil => intro us h _; cases us with
      | nil => exact .nil
      | cons _ _ => cases h
    | cons c cs ih =>
      intro us h k
      cases us with
      | nil => cases h
      | cons u us =>
        obtain ⟨c', e1, e2⟩ := k 0 u rfl
        cases e1
        exact .cons e2 (ih us (Nat.succ.inj h) fun j u hu => k (j + 1) u hu)
  exact gen _ _ len fun j u hu => by obtain ⟨c, e1, e2⟩ := key j u hu; exact ⟨c, by simpa using e1, e2⟩
theorem Reps.chars {K : PySem.W.Frag} {H : Hp} : ∀ cs : List Nat, Reps K H (cs.map fun c => D.str ⟨#[c]⟩) (cs.map fun c => V.str ⟨#[c]⟩)
  | [] => rfl
  | c :: cs => ⟨_, _, rfl, rfl, Reps.chars cs⟩
theorem cd_list (hc : X.calm = true) : CallR X (.type "list") (liftNL X.K rListU) := by
  refine call_imp ((cr_list_str hc).or call_list_of) fun xs H Q ⟨ws, s, R, r1, m, h, p⟩ => ?_
  unfold rListU at h
  split at h
  · rename_i z
    obtain ⟨v, r, rfl, r2, r3⟩ := r1
    cases (show r = [] from r3)
    exact .inl ⟨z, by rw [(show v = .str z from r2)], Nat.le_trans h.1 mil, p _ _ _ _ h.2 (.refl _ _) m (Reps.chars _)⟩
  · rename_i w _
    obtain ⟨v, r, rfl, r2, r3⟩ := r1
    cases (show r = [] from r3)
    split at h
    · rename_i us hu
      obtain ⟨a, vs, rfl, f, g⟩ := asQ_sq hu r2 m
      exact .inr ⟨a, vs, rfl, f, p _ _ _ _ h (.refl _ _) m g⟩
    · exact h.elim
  · exact h.elim
/-- sorted of texts, of ints -/
def rSortS : DN := fun ws s R => ∃ (w : D) (xs : List Str), ws = [w] ∧ asL s w = some (xs.map D.str) ∧ xs.length < 64 ∧ ∀ ys : List Str, ys.Perm xs → sortedS ys = true → R (ys.map D.str) s
theorem cd_sortS : CallR X (.builtin "sorted") (liftNL X.K rSortS) := by
  refine call_imp cr_sortedS fun vs H Q ⟨ws, s, R, r1, m, h, p⟩ => ?_
  obtain ⟨w, xs, rfl, hw, hl, h⟩ := h
  obtain ⟨v, r, rfl, r2, r3⟩ := r1
  cases (show r = [] from r3)
  obtain ⟨a, us, rfl, f, g⟩ := asL_sq hw r2 m
  cases g.strs
  exact ⟨a, xs, rfl, f, hl, fun ys q p1 p2 hq => p _ _ _ _ (h ys p1 p2) (.refl _ _) m Reps.ofStrs q hq⟩

/-! ### methods of lists that may change -/
def trk (x : D) (s : Sg) (k : Addr → List D → Prop) : Prop := match x with
  | .ref l => (match s.M l with
    | some (.lst ws) => k l ws
    | _ => False)
  | _ => False
theorem trk_ok {x : D} {s : Sg} {k : Addr → List D → Prop} (h : trk x s k) : ∃ l ws, x = .ref l ∧ s.M l = some (.lst ws) ∧ k l ws := by
  unfold trk at h
  split at h
  · rename_i l
    split at h
    · rename_i ws e
      exact ⟨l, ws, rfl, e, h⟩
    · exact h.elim
  · exact h.elim
def dAppend (to ta : DE) : DE := fun env s R => to env s fun x s1 => trk x s1 fun _ _ => ta env s1 fun y s2 => trk x s2 fun l ws => ws.length < 1000000 ∧ R .non (s2.put l (.lst (ws ++ [y])))
theorem mrep_put {K : PySem.W.Frag} {H : Hp} {s : Sg} {l : Addr} {ws us : List D} {ts : List V} (m : MRep K H s) (hm : s.M l = some (.lst ws)) (r : Reps K H us ts) : MRep K (upd H l (.lst ts)) (s.put l (.lst us)) ∧ Stp H s (upd H l (.lst ts)) (s.put l (.lst us)) := by
  have mu := (m.at_ l _ hm).mut
  exact ⟨m.write (.inr ⟨_, hm, fun _ => nofun⟩) (fun _ => nofun) ⟨ts, upd_same, Reps.ext (.put mu) _ _ r⟩, .put (.inr ⟨mu, by rw [hm]; simp⟩)⟩
theorem ty_trk {K : PySem.W.Frag} {H : Hp} {s : Sg} {l : Addr} {ws : List D} (m : MRep K H s) (hm : s.M l = some (.lst ws)) : tyV K "list" (.ref l) H := by
  obtain ⟨vs, z, _⟩ := m.at_ l _ hm
  exact .inl ⟨rfl, vs, .of z⟩
section
variable {o a : Expr} {to ta : DE} {apos cpos : Pos}
theorem pd_append (ho : PD X o to) (ha : PD X a ta) (hbase : attributeBase o "append" X.env (eval o X.env) = eval o X.env := by rfl)
    (hfew : ((backTo cpos (starEach [a] X.env)).all (fun x => !x.1) && (backToKw cpos (keywordEach [] X.env)).all (fun x => x.1.isSome) && decide (([a] : List Expr).length + ([] : List Keyword).length + (if ([] : List Keyword).isEmpty then 0 else 1) < 30)) = true := by rfl)
    (hline : (apos.endLine == cpos.line) = true := by rfl) (hs : starEach [a] X.env = (false, eval a X.env) :: starEach [] X.env := by rfl) :
    PD X (.Call (.Attribute o "append" apos) [a] [] cpos) (dAppend to ta) :=
  pe_imp (pe_bm PySem.F.plainAttrs_list PySem.F.slot_list_append PySem.F.type_list_append mt_append ho (pda_cons ha pda_nil hs) hbase hfew hline hs) fun σ H Q ⟨env, s, R, h1, h2, h3, h4⟩ => by
    refine ⟨env, s, _, h1, h2, h3, fun x s1 v H1 q e1 m1 r1 => ?_⟩
    obtain ⟨l, ws, rfl, hm, q⟩ := trk_ok q
    cases (show v = .ref l from r1)
    refine ⟨ty_trk m1 hm, env, s1, (fun zs s2 => match zs with
      | [y] => trk (.ref l) s2 fun l ws => ws.length < 1000000 ∧ R .non (s2.put l (.lst (ws ++ [y])))
      | _ => False), h1.ext e1.ext, m1, q, fun zs s3 us H3 q3 e3 m3 r3 => ?_⟩
    dsimp only at q3
    split at q3
    · rename_i y
      obtain ⟨u, ur, rfl, r2, r4⟩ := r3
      cases (show ur = [] from r4)
      obtain ⟨l', ws', e, hm3, c1, c2⟩ := trk_ok q3
      cases e
      obtain ⟨ts, z1, z2⟩ := m3.at_ l _ hm3
      have rs := Reps.append z2 (show Reps X.K H3 [y] [u] from ⟨u, [], rfl, r2, rfl⟩)
      obtain ⟨n1, n2⟩ := mrep_put m3 hm3 rs
      exact ⟨l, ts, u, rfl, rfl, z1, by rw [← z2.len]; exact mil1 c1, h4 _ _ _ _ c2 ((e1.trans e3).trans n2) n1 rfl⟩
    · exact q3.elim
def dPop (to : DE) : DE := fun env s R => to env s fun x s1 => trk x s1 fun l ws => match ws[ws.length - 1]? with
  | some y => R y (s1.put l (.lst ws.dropLast))
  | none => False
theorem Reps.dropLast {K : PySem.W.Frag} {H : Hp} {ws : List D} {vs : List V} (r : Reps K H ws vs) : Reps K H ws.dropLast vs.dropLast := by
  rw [List.dropLast_eq_take, List.dropLast_eq_take, r.len]
  exact r.take _
theorem pd_pop (ho : PD X o to) (hbase : attributeBase o "pop" X.env (eval o X.env) = eval o X.env := by rfl) (hline : (apos.endLine == cpos.line) = true := by rfl) : PD X (.Call (.Attribute o "pop" apos) [] [] cpos) (dPop to) :=
  pe_imp (pe_bm0 PySem.F.plainAttrs_list PySem.F.slot_list_pop PySem.F.type_list_pop mt_pop ho hbase hline) fun σ H Q ⟨env, s, R, h1, h2, h3, h4⟩ => by
    refine ⟨env, s, _, h1, h2, h3, fun x s1 v H1 q e1 m1 r1 => ?_⟩
    obtain ⟨l, ws, rfl, hm, q⟩ := trk_ok q
    cases (show v = .ref l from r1)
    split at q
    · rename_i y hy
      obtain ⟨ts, z1, z2⟩ := m1.at_ l _ hm
      obtain ⟨u, hu, ru⟩ := z2.get hy
      rw [z2.len] at hu
      obtain ⟨n1, n2⟩ := mrep_put m1 hm z2.dropLast
      exact ⟨ty_trk m1 hm, l, ts, u, rfl, rfl, z1, hu, h4 _ _ _ _ q (e1.trans n2) n1 (Rep.ext n2.ext _ _ ru)⟩
    · exact q.elim
def rPopAtD (l : Addr) (R : KD) (y : D) (s2 : Sg) : Prop := trk (.ref l) s2 fun l ws => ws.length ≤ 1000000 ∧ match y with
  | .int i => (match ixN ws.length i with
    | some k => (match ws[k]? with
      | some z => R z (s2.put l (.lst (ws.eraseIdx k)))
      | none => False)
    | none => False)
  | _ => False
def dPopAt (to ta : DE) : DE := fun env s R => to env s fun x s1 => trk x s1 fun l _ => ta env s1 fun y s2 => rPopAtD l R y s2
theorem pd_popAt (ho : PD X o to) (ha : PD X a ta) (hbase : attributeBase o "pop" X.env (eval o X.env) = eval o X.env := by rfl)
    (hfew : ((backTo cpos (starEach [a] X.env)).all (fun x => !x.1) && (backToKw cpos (keywordEach [] X.env)).all (fun x => x.1.isSome) && decide (([a] : List Expr).length + ([] : List Keyword).length + (if ([] : List Keyword).isEmpty then 0 else 1) < 30)) = true := by rfl)
    (hline : (apos.endLine == cpos.line) = true := by rfl) (hs : starEach [a] X.env = (false, eval a X.env) :: starEach [] X.env := by rfl) :
    PD X (.Call (.Attribute o "pop" apos) [a] [] cpos) (dPopAt to ta) :=
  pe_imp (pe_bm PySem.F.plainAttrs_list PySem.F.slot_list_pop PySem.F.type_list_pop mt_popAt ho (pda_cons ha pda_nil hs) hbase hfew hline hs) fun σ H Q ⟨env, s, R, h1, h2, h3, h4⟩ => by
    refine ⟨env, s, _, h1, h2, h3, fun x s1 v H1 q e1 m1 r1 => ?_⟩
    obtain ⟨l, ws, rfl, hm, q⟩ := trk_ok q
    cases (show v = .ref l from r1)
    refine ⟨ty_trk m1 hm, env, s1, (fun zs s2 => match zs with
      | [y] => rPopAtD l R y s2
      | _ => False), h1.ext e1.ext, m1, q, fun zs s3 us H3 q3 e3 m3 r3 => ?_⟩
    dsimp only at q3
    split at q3
    · rename_i y
      obtain ⟨u, ur, rfl, r2, r4⟩ := r3
      cases (show ur = [] from r4)
      obtain ⟨l', ws', e, hm3, c0, c⟩ := trk_ok q3
      cases e
      split at c
      · rename_i i
        cases (show u = .int i from r2)
        split at c
        · rename_i k hk
          split at c
          · rename_i z hz
            obtain ⟨ts, z1, z2⟩ := m3.at_ l _ hm3
            obtain ⟨t, ht, rt⟩ := z2.get hz
            rw [z2.len] at hk
            obtain ⟨g1, g2, g3, g4⟩ := ixN_seq hk
            have hz : ts.length ≤ 1000000 := by rw [← z2.len]; exact c0
            obtain ⟨n1, n2⟩ := mrep_put m3 hm3 (z2.erase k)
            exact ⟨l, ts, i, k, t, rfl, rfl, z1, by omega, by omega, g1, ht, h4 _ _ _ _ c ((e1.trans e3).trans n2) n1 (Rep.ext n2.ext _ _ rt)⟩
          · exact c.elim
        · exact c.elim
      · exact c.elim
    · exact q3.elim
end
/-! ### xs[i] = v -/
def dSetIx (tv to ti : DE) : DS := fun DD env s => tv env s fun v s1 => to env s1 fun x s2 => ti env s2 fun y s3 => trk x s3 fun l ws => match y with
  | .int i => (match ixN ws.length i with
    | some k => DD.nx env (s3.put l (.lst (ws.set k v)))
    | none => False)
  | _ => False
theorem pd_setIx {o i e : Expr} {to ti te : DE} {ps pos : Pos} (he : PD X e te) (ho : PD X o to) (hi : PD X i ti)
    (ha : ∀ v, assign (.Subscript o i ps) X.env v = (do
      let ov ← holding [v] (eval o X.env)
      let iv ← holding [v, ov] (eval i X.env)
      standAt ps
      holding [v, ov, iv] (setItem ov iv v)
      release [v, ov, iv] []) := by intro _; rfl)
    (hs : swapsWithSole [.Subscript o i ps] e pos.line X.env = pure false := by rfl) (hw : swappedStores [.Subscript o i ps] e X.env = pure none := by rfl)
    (h1 : (assignEach [.Subscript o i ps] X.env).map (·.2) = [assign (.Subscript o i ps) X.env] := by rfl) : PDS X (.Assign [.Subscript o i ps] e pos) (dSetIx te to ti) :=
  ps_imp (ps_asg he (pg_sub ho hi set_list ha) hs hw h1) fun D0 σ H ⟨env, s, DD, h1, h2, h3, h4⟩ => by
    refine ⟨env, s, _, h1, h2, h3, fun v s1 vv H1 q1 e1 m1 r1 => ⟨env, s1, _, h1.ext e1.ext, m1, q1, fun x s2 xv H2 q2 e2 m2 r2 => ⟨env, s2, _, (h1.ext e1.ext).ext e2.ext, m2, q2, fun y s3 yv H3 q3 e3 m3 r3 => ?_⟩⟩⟩
    obtain ⟨l, ws, rfl, hm, c⟩ := trk_ok q3
    split at c
    · rename_i i
      split at c
      · rename_i k hk
        cases (show xv = .ref l from r2)
        cases (show yv = .int i from r3)
        obtain ⟨ts, z1, z2⟩ := m3.at_ l _ hm
        rw [z2.len] at hk
        have rv := Rep.ext e3.ext _ _ (Rep.ext e2.ext _ _ r1)
        obtain ⟨n1, n2⟩ := mrep_put m3 hm (z2.set rv k)
        have et := ((e1.trans e2).trans e3).trans n2
        exact ⟨l, ts, i, k, rfl, rfl, z1, hk, h4.nx _ _ _ _ c et n1 (h1.ext et.ext)⟩
      · exact c.elim
    · exact c.elim
/-! ### sep.join(xs) -/
def rJoin (a : Str) (R : KD) (y : D) (s2 : Sg) : Prop := ∃ ys : List Str, asQ s2 y = some (ys.map D.str) ∧ (ys.map (·.length)).sum + ys.length * a.length ≤ 1000000 ∧ R (.str (Txt.join a ys)) s2
def dJoin (to ta : DE) : DE := fun env s R => to env s fun x s1 => match x with
  | .str a => ta env s1 fun y s2 => rJoin a R y s2
  | _ => False
theorem pd_join {o a : Expr} {to ta : DE} {apos cpos : Pos} (ho : PD X o to) (ha : PD X a ta) (hbase : attributeBase o "join" X.env (eval o X.env) = eval o X.env := by rfl)
    (hfew : ((backTo cpos (starEach [a] X.env)).all (fun x => !x.1) && (backToKw cpos (keywordEach [] X.env)).all (fun x => x.1.isSome) && decide (([a] : List Expr).length + ([] : List Keyword).length + (if ([] : List Keyword).isEmpty then 0 else 1) < 30)) = true := by rfl)
    (hline : (apos.endLine == cpos.line) = true := by rfl) (hs : starEach [a] X.env = (false, eval a X.env) :: starEach [] X.env := by rfl) :
    PD X (.Call (.Attribute o "join" apos) [a] [] cpos) (dJoin to ta) :=
  pe_imp (pe_bm PySem.F.plainAttrs_str PySem.F.slot_str_join PySem.F.type_str_join mt_join ho (pda_cons ha pda_nil hs) hbase hfew hline hs) fun σ H Q ⟨env, s, R, h1, h2, h3, h4⟩ => by
    refine ⟨env, s, _, h1, h2, h3, fun x s1 v H1 q e1 m1 r1 => ?_⟩
    split at q
    · rename_i z
      cases (show v = .str z from r1)
      refine ⟨rfl, env, s1, (fun zs s2 => match zs with
        | [y] => rJoin z R y s2
        | _ => False), h1.ext e1.ext, m1, q, fun zs s3 us H3 q3 e3 m3 r3 => ?_⟩
      dsimp only at q3
      split at q3
      · rename_i y
        obtain ⟨u, ur, rfl, r2, r4⟩ := r3
        cases (show ur = [] from r4)
        obtain ⟨ys, hy, hl, c⟩ := q3
        obtain ⟨b, vs, rfl, f, g⟩ := asQ_sq hy r2 m3
        cases g.strs
        exact ⟨z, b, ys, rfl, rfl, f, Nat.le_trans hl (by decide), h4 _ _ _ _ c (e1.trans e3) m3 rfl⟩
      · exact q3.elim
    · exact q.elim
end
end Dz
namespace Dz
open PySem PySem.Spec PyProof.Rows L2

/-! ### defs: where no repr is running -/
structure FnG (P : Program) (w : World) (K : PySem.W.Frag) (mg : Str → Option Value) (base : Heap) (CX : CXT) (k : Nat) (f : Addr) (fd : FuncData) (ps : List Str) (sp : Sp) : Prop where
  len : ∀ vs H Q E, sp vs H Q E → vs.length = ps.length
  run : ∀ (A : Around) (outer : List Env) (s : Shared) (H : Hp) (args : Args) (us : List Value) (vs : List V) (Q : VK) (E : XK), Room k A → A.guards = some [] → Env0 P w K mg base A outer s H → BindsTo s fd args (ps.zip us) → Vals vs us → sp vs H Q E →
    codeAny (model P w) A (.call (.ref f) args) (CR CX outer P w H s Q E) s
section
variable {P : Program} {w : World} {K : PySem.W.Frag} {mg : Str → Option Value} {base : Heap} {CX : CXT} {j k : Nat} {f : Addr} {fd : FuncData} {ps : List Str} {sp sp' : Sp}
theorem FnG.mono (F : FnG P w K mg base CX j f fd ps sp) (h : j ≤ k) : FnG P w K mg base CX k f fd ps sp := ⟨F.len, fun A outer s H args us vs Q E hr => F.run A outer s H args us vs Q E (hr.mono h)⟩
theorem FnG.imp (F : FnG P w K mg base CX k f fd ps sp) (h : ∀ vs H Q E, sp' vs H Q E → sp vs H Q E) : FnG P w K mg base CX k f fd ps sp' :=
  ⟨fun vs H Q E q => F.len vs H Q E (h _ _ _ _ q), fun A outer s H args us vs Q E hr hg he hb hv hs => F.run A outer s H args us vs Q E hr hg he hb hv (h _ _ _ _ hs)⟩
/-- a def of the text, by its body -/
theorem fnG_of {x qual : Str} {params : Arguments} {body : List Stmt} {scope : Scope} {dvs : List V} {kws : List (Str × V)} {N : List Str} (F : FunD K x qual params body scope dvs kws f fd) (S : FnScope N ps scope) (len : ∀ vs H Q E, sp vs H Q E → vs.length = ps.length)
    (hb : ∀ (cdv : Value) (A : Around) (outer : List Env) (s : Shared) (H : Hp) (vs : List V) (Q : VK) (E : XK), Room k (A.deeper (envOfC qual scope s.heap.objs.size f cdv)) → (A.deeper (envOfC qual scope s.heap.objs.size f cdv)).guards = some [] → sp vs H Q E →
      ∃ t, PSs (cxOf CX P w K mg base N qual scope f cdv A outer s H E) body t ∧ t { nx := fun _ H' => Q .non H', rt := Q } (L2.start N vs) H) : FnG P w K mg base CX (k + 1) f fd ps sp := by
  obtain ⟨oc, od, dV, kV, doc, pm, an, cdv, ct, osl, rfl, lk, hcd, _, _⟩ := F.ex
  refine ⟨len, fun A outer s H args us vs Q E hr hg e0 hbd r hsp => ?_⟩
  have up : ∀ b o, base.get? b = some o → s.heap.get? b = some o := fun b o e => (e0.bs b o e).1
  have KX : K.In s.heap := e0.mod.kin.keeps up
  have hkind : ∀ y ∈ ps.zip us, scope.names.lookup y.1 = some .local ∨ (scope.names.lookup y.1 = some .cell ∧ ((cellsFrom (s.heap.objs.size + 1) scope.names []).lookup y.1).isSome = true) := by
    rintro ⟨n, v⟩ hy
    exact (S.par n (List.of_mem_zip hy).1).imp (fun q => q) fun q => ⟨q, PySem.W.cellsFrom_some _ _ _ (.inl q)⟩
  apply codeAny_call_function hr.depth (KX _ _ lk) rfl S.co S.gen rfl (PySem.W.codeRec_of KX hcd)
  apply hbd
  apply wpAny_newFunctionEnv_cells S.kind hkind
  rintro env rfl s1 x
  refine ⟨(e0.mod.nolimit.keeps up).keeps x.toInCall.keep, codeAny_func ?_⟩
  obtain ⟨t, ht, hq⟩ := hb cdv A outer s H vs Q E (hr.deeper _) hg hsp
  have I := inv_start (CX := CX) (E := E) S hr.hd e0 (len _ _ _ _ hsp) r x
  refine wpAny_mono (ht.run [] s1 _ H _ I hq) ?_ fun e s' hs => hs
  rintro (_ | _ | _ | u) s' hs
  · obtain ⟨σ', H', J, q⟩ := hs
    exact ⟨.non, H', J.os, J.bare, J.base, J.hok, rfl, q⟩
  all_goals first
    | (obtain ⟨v, σ', H', J, rv, q⟩ := hs; exact ⟨v, H', J.os, J.bare, J.base, J.hok, rv, q⟩)
    | (obtain ⟨_, _, _, q⟩ := hs; exact q.elim)
end
section
variable {X : Cx} {CX : CXT} {k : Nat} {f : Addr} {fd : FuncData} {ps : List Str} {sp : Sp} {dvs : List V} {ds : List Value} {E : XK}
theorem run_fnG {pins : List (Addr × Obj)} {σ : L2.St} {H : Hp} {s : Shared} {Q : VK} {us : List Value} {vs : List V} (F : FnG X.prog X.w X.K X.mg X.base CX k f fd ps sp) (hr : Room k X.A) (hg : X.A.guards = some []) (hb : Binds X.K fd ps ds) (hd : Vals dvs ds) (hx : Passes CX X E)
    (I : Inv X pins σ H s) (r : Vals vs us) (h : sp (vs ++ dvs) H Q E) : wpAny (model X.prog X.w) X.A (call (.ref f) us) (EP X pins σ Q) X.xe s := by
  have r2 := r.append hd
  have hl : (us ++ ds).length = ps.length := r2.length.symm.trans (F.len _ _ _ _ h)
  refine wpAny_call (codeAny_mono (F.run X.A X.stack s H ⟨us, []⟩ _ _ Q E hr hg I.env0 (hb s us I.kIn hl) r2 h) ?_)
  rintro (e | (_ | _ | _ | u)) s' hq
  · exact hx pins σ H s e s' I hq
  all_goals first
    | exact I.after hq
    | exact False.elim hq
theorem pe_callG {x : Str} {p pos : Pos} {e : Expr} {es : List Expr} {t : TA} (F : FnG X.prog X.w X.K X.mg X.base CX k f fd ps sp) (hr : Room k X.A) (hgd : X.A.guards = some []) (hg : Gl X x) (hm : X.mg x = some (.ref f)) (hk : PySem.W.keepIn X.K (.ref f) = true) (hb : Binds X.K fd ps ds) (hd : Vals dvs ds) (hx : Passes CX X E)
    (ha : PA X (e :: es) t) (hdb : (x == ("__debug__" : Str)) = false := by decide) (he : starEach (e :: es) X.env = (false, eval e X.env) :: starEach es X.env := by rfl) (hpl : (backTo pos (starEach es X.env)).any (·.1) = false := by rfl) :
    PE X (.Call (.Name x p) (e :: es) [] pos) (tCall sp dvs E t) :=
  ⟨fun pins s σ H Q I h => wpAny_Call_Name_kw (ld_glob I hg hm (PySem.W.callWith_K (h₀ := X.base) I.ok.mod.kin hk (thn (ha.run pos pins s σ H _ I h) fun us s1 ⟨vs, H1, I1, r, q⟩ => ⟨I1.kIn, run_fnG F hr hgd hb hd hx I1 r q⟩) he hpl) hdb)⟩
theorem pe_callG0 {x : Str} {p pos : Pos} (F : FnG X.prog X.w X.K X.mg X.base CX k f fd ps sp) (hr : Room k X.A) (hgd : X.A.guards = some []) (hg : Gl X x) (hm : X.mg x = some (.ref f)) (hk : PySem.W.keepIn X.K (.ref f) = true) (hb : Binds X.K fd ps ds) (hd : Vals dvs ds) (hx : Passes CX X E)
    (hdb : (x == ("__debug__" : Str)) = false := by decide) : PE X (.Call (.Name x p) [] [] pos) (tCall sp dvs E tNil) :=
  ⟨fun pins s σ H Q I h => wpAny_Call_Name_kw (ld_glob I hg hm (PySem.W.callWith_K0 I.kIn hk (run_fnG (us := []) F hr hgd hb hd hx I .nil h)) hdb)⟩
end

/-! ### deep promises; an exception: its class, its fields -/
abbrev XD := Value → List (Str × D) → Sg → Prop
abbrev SpD := List D → Sg → KD → XD → Prop
def FldAt (K : PySem.W.Frag) (H : Hp) (d : Option Addr) (fs : List (Str × D)) : Prop := (d = none ∧ fs = []) ∨ ∃ a vs, d = some a ∧ H a = some (.xd ((fs.map (·.1)).zip vs)) ∧ Reps K H (fs.map (·.2)) vs
def PostX (K : PySem.W.Frag) (H : Hp) (s0 : Sg) (E : XD) (F : XK) : Prop := ∀ cls fs s d H', E cls fs s → Stp H s0 H' s → MRep K H' s → FldAt K H' d fs → F cls d H'
theorem PostX.ext {K : PySem.W.Frag} {H H1 : Hp} {s0 s1 : Sg} {E : XD} {F : XK} (e : Stp H s0 H1 s1) (p : PostX K H s0 E F) : PostX K H1 s1 E F := fun c fs s d H' a b m q => p c fs s d H' a (e.trans b) m q
def liftSp (K : PySem.W.Frag) (sp : SpD) : Sp := fun vs H Q E => ∃ ws s R E', Reps K H ws vs ∧ MRep K H s ∧ sp ws s R E' ∧ Post K H s R Q ∧ PostX K H s E' E
abbrev X0 : XD := fun _ _ _ => False
theorem postX0 {K : PySem.W.Frag} {H : Hp} {s : Sg} {F : XK} : PostX K H s X0 F := fun _ _ _ _ _ h => h.elim
/-- what a body may end with: less may be said than is known -/
structure Less (s s' : Sg) : Prop where
  m : ∀ a o, s'.M a = some o → s.M a = some o
  n : s'.n ≤ s.n
  v : s'.pv = s.pv
theorem Less.refl (s : Sg) : Less s s := ⟨fun _ _ h => h, Nat.le_refl _, rfl⟩
theorem Less.put {s : Sg} {p : Addr} {o : MO} (h : s.M p = none) : Less (s.put p o) s := ⟨fun a u e => by rw [show (s.put p o).M a = s.M a from Mm.put_ne fun z => by subst z; rw [h] at e; cases e]; exact e, Nat.le_refl _, rfl⟩
theorem Less.trans {a b c : Sg} (h : Less a b) (g : Less b c) : Less a c := ⟨fun x o e => h.m x o (g.m x o e), Nat.le_trans g.n h.n, g.v.trans h.v⟩
/-- a state that is known may be told as another one -/
def Clo (s s' : Sg) : Prop := ∀ K H, MRep K H s → MRep K H s' ∧ Stp H s H s'
theorem Less.clo {s s' : Sg} (l : Less s s') : Clo s s' := fun K H m => ⟨m.weak l.m l.n l.v, .weak l.m l.v⟩
theorem Clo.refl (s : Sg) : Clo s s := (Less.refl s).clo
theorem Clo.trans {a b c : Sg} (h : Clo a b) (g : Clo b c) : Clo a c := fun K H m => by
  obtain ⟨m1, e1⟩ := h K H m
  obtain ⟨m2, e2⟩ := g K H m1
  exact ⟨m2, e1.trans e2⟩
def Lw (R : KD) : KD := fun w s => ∃ s', Clo s s' ∧ R w s'
theorem Lw.of {R : KD} {w : D} {s : Sg} (h : R w s) : Lw R w s := ⟨s, .refl s, h⟩
theorem Post.lw {K : PySem.W.Frag} {H : Hp} {s : Sg} {R : KD} {Q : VK} (p : Post K H s R Q) : Post K H s (Lw R) Q := fun w s1 v H' ⟨s', l, q⟩ e m r => by
  obtain ⟨m1, e1⟩ := l K H' m
  exact p w s' v H' q (e.trans e1) m1 r
/-! opening and closing the box -/
def rawM (M : Mm) : Bx → List Addr → Mm
  | .inr ns :: r, a :: as => (rawM M r as).put a (.lst (ns.map D.int))
  | .inl _ :: r, as => rawM M r as
  | _, _ => M
def rawV : Bx → List Addr → List D
  | .inr _ :: r, a :: as => .ref a :: rawV r as
  | .inl i :: r, as => .int i :: rawV r as
  | _, _ => []
def RawAt (M : Mm) : Bx → List Addr → Prop
  | .inr ns :: r, a :: as => M a = some (.lst (ns.map D.int)) ∧ RawAt M r as
  | .inl _ :: r, as => RawAt M r as
  | [], as => as = []
  | _, _ => False
theorem BxAt.raw {K : PySem.W.Frag} {H : Hp} : ∀ {st : Bx} {vs : List V} {as : List Addr}, BxAt H st vs as → Reps K H (rawV st as) vs
  | [], vs, as, h => by obtain ⟨rfl, rfl⟩ := h; rfl
  | .inl i :: r, vs, as, h => by obtain ⟨vs', rfl, h'⟩ := h; exact ⟨_, _, rfl, rfl, BxAt.raw h'⟩
  | .inr ns :: r, vs, as, h => by obtain ⟨a, vs', as', rfl, rfl, e, h'⟩ := h; exact ⟨_, _, rfl, rfl, BxAt.raw h'⟩
theorem rawM_off {M : Mm} : ∀ {st : Bx} {as : List Addr} {b : Addr}, b ∉ as → rawM M st as b = M b
  | [], as, b, h => rfl
  | .inl i :: r, as, b, h => rawM_off (st := r) h
  | .inr ns :: r, [], b, h => rfl
  | .inr ns :: r, a :: as, b, h => by
    show (rawM M r as).put a _ b = _
    rw [Mm.put_ne (fun e => h (by rw [e]; exact List.mem_cons_self)), rawM_off fun q => h (List.mem_cons_of_mem _ q)]
theorem BxAt.rawAt {H : Hp} {M : Mm} : ∀ {st : Bx} {vs : List V} {as : List Addr}, BxAt H st vs as → as.Nodup → RawAt (rawM M st as) st as ∧ ∀ b ∈ as, ∃ ns : List Int, rawM M st as b = some (.lst (ns.map D.int)) ∧ H b = some (.lst (ns.map V.int))
  | [], vs, as, h, _ => by obtain ⟨rfl, rfl⟩ := h; exact ⟨rfl, fun b hb => nomatch hb⟩
  | .inl i :: r, vs, as, h, nd => by
    obtain ⟨vs', rfl, h'⟩ := h
    have g := BxAt.rawAt (M := M) h' nd
    exact ⟨by cases as <;> exact g.1, by cases as <;> exact g.2⟩
  | .inr ns :: r, vs, as, h, nd => by
    obtain ⟨a, vs', as', rfl, rfl, e, h'⟩ := h
    obtain ⟨n1, n2⟩ := List.nodup_cons.mp nd
    obtain ⟨g1, g2⟩ := BxAt.rawAt (M := M) h' n2
    have ne : ∀ b ∈ as', b ≠ a := fun b hb q => n1 (q ▸ hb)
    have up : ∀ {st : Bx} {bs : List Addr}, (∀ b ∈ bs, b ≠ a) → RawAt (rawM M r as') st bs → RawAt ((rawM M r as').put a (.lst (ns.map D.int))) st bs := by
      intro st
      induction st with
      | nil => intro bs _ h; cases bs <;> first | exact h | cases h
      | cons x st ih =>
        intro bs hb h
        cases x with
        | inl i => exact ih hb h
        | inr ms =>
          cases bs with
          | nil => exact h.elim
          | cons b bs => exact ⟨by rw [Mm.put_ne (hb b List.mem_cons_self)]; exact h.1, ih (fun c hc => hb c (List.mem_cons_of_mem _ hc)) h.2⟩
    refine ⟨⟨Mm.put_same, up ne g1⟩, fun b hb => ?_⟩
    rcases List.mem_cons.mp hb with rfl | hb
    · exact ⟨ns, Mm.put_same, e⟩
    · obtain ⟨ms, q1, q2⟩ := g2 b hb
      exact ⟨ms, by rw [show rawM M (.inr ns :: r) (a :: as') b = rawM M r as' b from Mm.put_ne (ne b hb)]; exact q1, q2⟩
/-- the box is opened -/
theorem box_open {K : PySem.W.Frag} {H : Hp} {s : Sg} {p : Addr} {I : Nat → Bx → Prop} (m : MRep K H s) (h : s.M p = some (.box I)) :
    ∃ st, (∃ k, s.n ≤ k ∧ I k st) ∧ s.pv.Nodup ∧ p ∉ s.pv ∧ (∀ b ∈ s.pv, s.M b = none) ∧ RawAt (rawM s.M st s.pv) st s.pv ∧
      MRep K H ⟨(rawM s.M st s.pv).put p (.lst (rawV st s.pv)), s.n, []⟩ ∧ Stp H s H ⟨(rawM s.M st s.pv).put p (.lst (rawV st s.pv)), s.n, []⟩ := by
  obtain ⟨st, vs, hI, h1, h2, h3⟩ := m.at_ p _ h
  obtain ⟨g1, g2⟩ := BxAt.rawAt (M := s.M) h2 h3
  have np : p ∉ s.pv := fun q => by rw [(m.pvs p q).2] at h; cases h
  refine ⟨st, hI, h3, np, fun b hb => (m.pvs b hb).2, g1, ⟨fun a o e => ?_, fun a b J1 J2 e1 e2 => ?_, fun b hb => nomatch hb⟩, ⟨.refl _, fun b o h4 h5 h6 h7 => ⟨h4, ?_, fun q => nomatch q⟩⟩⟩
  · dsimp only at e
    by_cases ha : a = p
    · subst ha
      rw [show (rawM s.M st s.pv).put a (.lst (rawV st s.pv)) a = _ from Mm.put_same] at e
      cases e
      exact ⟨vs, h1, h2.raw⟩
    · rw [show (rawM s.M st s.pv).put p (.lst (rawV st s.pv)) a = _ from Mm.put_ne ha] at e
      by_cases hv : a ∈ s.pv
      · obtain ⟨ns, q1, q2⟩ := g2 a hv
        rw [q1] at e
        cases e
        exact ⟨_, q2, Reps.ofInts⟩
      · rw [rawM_off hv] at e
        have q := m.at_ a o e
        cases o with
        | lst ws => exact q
        | dic ks ws => exact q
        | ins C ns ws => exact q
        | box J => exact absurd (m.one a p J I e h) ha
  · have key : ∀ a J, (rawM s.M st s.pv).put p (.lst (rawV st s.pv)) a = some (.box J) → False := fun a J e => by
      by_cases ha : a = p
      · subst ha
        rw [Mm.put_same] at e
        cases e
      · rw [Mm.put_ne ha] at e
        by_cases hv : a ∈ s.pv
        · obtain ⟨ns, q1, q2⟩ := g2 a hv
          rw [q1] at e
          cases e
        · rw [rawM_off hv] at e
          exact ha (m.one a p J I e h)
    exact (key a J1 e1).elim
  · have nbp : b ≠ p := fun q => by subst q; rw [h] at h6; cases h6
    dsimp only
    rw [show (rawM s.M st s.pv).put p (.lst (rawV st s.pv)) b = _ from Mm.put_ne nbp, rawM_off h7]
    exact h6
theorem RawAt.bx {K : PySem.W.Frag} {H : Hp} {s : Sg} (m : MRep K H s) : ∀ {st : Bx} {as : List Addr} {vs : List V}, RawAt s.M st as → Reps K H (rawV st as) vs → BxAt H st vs as ∧ ∀ b ∈ as, ∃ ns : List Int, s.M b = some (.lst (ns.map D.int))
  | [], as, vs, h, r => by
    cases (show as = [] from h)
    cases (show vs = [] from r)
    exact ⟨⟨rfl, rfl⟩, fun b hb => nomatch hb⟩
  | .inl i :: st, as, vs, h, r => by
    obtain ⟨v, vs', rfl, r1, r2⟩ := r
    cases (show v = .int i from r1)
    obtain ⟨g1, g2⟩ := RawAt.bx m (st := st) h r2
    exact ⟨⟨vs', rfl, g1⟩, g2⟩
  | .inr ns :: st, [], vs, h, r => h.elim
  | .inr ns :: st, a :: as, vs, h, r => by
    obtain ⟨v, vs', rfl, r1, r2⟩ := r
    cases (show v = .ref a from r1)
    obtain ⟨g1, g2⟩ := RawAt.bx m (st := st) h.2 r2
    obtain ⟨us, e, q⟩ := m.at_ a _ h.1
    cases q.ints
    refine ⟨⟨a, vs', as, rfl, rfl, e, g1⟩, fun b hb => ?_⟩
    rcases List.mem_cons.mp hb with rfl | hb
    · exact ⟨ns, h.1⟩
    · exact g2 b hb
/-- the box is closed -/
theorem box_close {s s' : Sg} {p : Addr} {I : Nat → Bx → Prop} {st : Bx} {k : Nat} (hI : I k st) (hk : s'.n ≤ k) (h1 : s.M p = some (.lst (rawV st s'.pv))) (h2 : RawAt s.M st s'.pv) (h3 : s'.pv.Nodup) (h4 : p ∉ s'.pv) (h5 : s.pv = [])
    (h6 : s'.M p = some (.box I)) (h7 : ∀ b ∈ s'.pv, s'.M b = none) (h8 : ∀ b o, b ≠ p → s'.M b = some o → s.M b = some o ∧ ∀ J, o ≠ .box J) : Clo s s' := fun K H m => by
  obtain ⟨vs, e, r⟩ := m.at_ p _ h1
  obtain ⟨g1, g2⟩ := RawAt.bx m h2 r
  have pm : ∀ b ∈ s'.pv, Mut (H b) := fun b hb => by
    obtain ⟨ns, q⟩ := g2 b hb
    exact (m.at_ b _ q).mut
  refine ⟨⟨fun a o ea => ?_, fun a b J1 J2 e1 e2 => ?_, fun b hb => ⟨pm b hb, h7 b hb⟩⟩, ⟨.refl _, fun b o q1 q2 q3 q4 => ⟨q1, ?_, fun hb => ?_⟩⟩⟩
  · by_cases ha : a = p
    · subst ha
      rw [h6] at ea
      cases ea
      exact ⟨st, vs, ⟨k, hk, hI⟩, e, g1, h3⟩
    · obtain ⟨z1, z2⟩ := h8 a o ha ea
      have q := m.at_ a o z1
      cases o with
      | lst ws => exact q
      | dic ks ws => exact q
      | ins C ns ws => exact q
      | box J => exact absurd rfl (z2 J)
  · have key : ∀ a J, s'.M a = some (.box J) → a = p := fun a J e => by
      by_cases ha : a = p
      · exact ha
      · exact absurd rfl ((h8 a _ ha e).2 J)
    rw [key a J1 e1, key b J2 e2]
  · by_cases hb : b = p
    · subst hb; rw [h1] at q3; cases q3
    · cases z : s'.M b with
      | none => rfl
      | some o' => rw [(h8 b o' hb z).1] at q3; cases q3
  · obtain ⟨ns, q⟩ := g2 b hb
    rw [q] at q3
    cases q3
def startD (N : List Str) (ws : List D) : Ev := ws.map some ++ List.replicate (N.length - ws.length) none
theorem renv_start {K : PySem.W.Frag} {H : Hp} {N : List Str} {ws : List D} {vs : List V} (r : Reps K H ws vs) : REnv K H (startD N ws) (L2.start N vs) := by
  unfold startD L2.start
  refine ⟨by simp [r.len], fun i w h => ?_⟩
  have hi : i < ws.length := by
    by_cases hi : i < ws.length
    · exact hi
    · rw [List.getElem?_append_right (by simpa using hi), List.getElem?_replicate] at h
      split at h <;> cases h
  rw [List.getElem?_append_left (by simpa using hi), List.getElem?_map] at h
  obtain ⟨w', e1, e2⟩ := Option.map_eq_some_iff.mp h
  cases e2
  obtain ⟨v, e3, e4⟩ := r.get e1
  exact ⟨v, by rw [List.getElem?_append_left (by rw [List.length_map, ← r.len]; exact hi), List.getElem?_map, e3]; rfl, e4⟩
/-- a def as others call it -/
structure Df (P : Program) (w : World) (K : PySem.W.Frag) (mg : Str → Option Value) (base : Heap) (CX : CXT) (k : Nat) (x : Str) (ps : List Str) (sp : SpD) : Prop where
  ex : ∃ f fd, mg x = some (.ref f) ∧ PySem.W.keepIn K (.ref f) = true ∧ Binds K fd ps [] ∧ FnG P w K mg base CX k f fd ps (liftSp K sp)
section
variable {P : Program} {w : World} {K : PySem.W.Frag} {mg : Str → Option Value} {base : Heap} {CX : CXT} {j k : Nat} {x : Str} {ps : List Str} {sp sp' : SpD}
theorem Df.mono (F : Df P w K mg base CX j x ps sp) (h : j ≤ k) : Df P w K mg base CX k x ps sp := by
  obtain ⟨f, fd, a, b, c, d⟩ := F.ex
  exact ⟨f, fd, a, b, c, d.mono h⟩
theorem Df.imp (F : Df P w K mg base CX k x ps sp) (h : ∀ ws s R E, sp' ws s R E → sp ws s R E) : Df P w K mg base CX k x ps sp' := by
  obtain ⟨f, fd, a, b, c, d⟩ := F.ex
  exact ⟨f, fd, a, b, c, d.imp fun vs H Q E ⟨ws, s, R, E', h1, h2, h3, h4, h5⟩ => ⟨ws, s, R, E', h1, h2, h _ _ _ _ h3, h4, h5⟩⟩
end
def dCall (sp : SpD) (t : DA) : DE := fun env s R => t env s fun ws s1 => sp ws s1 R X0
section
variable {X : Cx} {CX : CXT} {k : Nat} {x : Str} {ps : List Str} {sp : SpD}
theorem pd_call {p pos : Pos} {e : Expr} {es : List Expr} {t : DA} (F : Df X.prog X.w X.K X.mg X.base CX0 k x ps sp) (hr : Room k X.A) (hgd : X.A.guards = some []) (hg : Gl X x) (ha : PDA X (e :: es) t)
    (hdb : (x == ("__debug__" : Str)) = false := by decide) (he : starEach (e :: es) X.env = (false, eval e X.env) :: starEach es X.env := by rfl) (hpl : (backTo pos (starEach es X.env)).any (·.1) = false := by rfl) :
    PD X (.Call (.Name x p) (e :: es) [] pos) (dCall sp t) := by
  obtain ⟨f, fd, hm, hk, hb, G⟩ := F.ex
  refine pe_imp (pe_callG (E := E0) G hr hgd hg hm hk hb .nil pass0 ha hdb he hpl) fun σ H Q ⟨env, s, R, h1, h2, h3, h4⟩ => ?_
  refine ⟨env, s, _, h1, h2, h3, fun ws s1 vs H1 q e1 m1 r1 => ?_⟩
  show liftSp X.K sp (vs ++ []) H1 Q E0
  rw [List.append_nil]
  exact ⟨ws, s1, R, X0, r1, m1, q, h4.ext e1, postX0⟩
end
/-- a def keeps a deep promise, by its body's reading -/
theorem df_of {P : Program} {w : World} {K : PySem.W.Frag} {mg : Str → Option Value} {base : Heap} {k : Nat} {f : Addr} {fd : FuncData} {x qual : Str} {params : Arguments} {body : List Stmt} {scope : Scope} {kws : List (Str × V)} {N ps : List Str} {sp : SpD} {tb : DS}
    (F : FunD K x qual params body scope [] kws f fd) (S : FnScope N ps scope) (hm : mg x = some (.ref f)) (hb : Binds K fd ps [])
    (body_ok : ∀ (cdv : Value) (A : Around) (outer : List Env) (s : Shared) (H : Hp) (E : XK), Room k (A.deeper (envOfC qual scope s.heap.objs.size f cdv)) → (A.deeper (envOfC qual scope s.heap.objs.size f cdv)).guards = some [] → PDSs (cxOf CX0 P w K mg base N qual scope f cdv A outer s H E).nox body tb)
    (sem : ∀ ws s R, sp ws s R X0 → ws.length = ps.length ∧ ∀ K H, MRep K H s → ∃ s1, MRep K H s1 ∧ Stp H s H s1 ∧ tb { nx := fun _ s' => Lw R .non s', rt := Lw R } (startD N ws) s1)
    (noX : ∀ ws s R E, sp ws s R E → sp ws s R X0) : Df P w K mg base CX0 (k + 1) x ps sp := by
  refine ⟨f, fd, hm, F.kp, hb, fnG_of F S (fun vs H Q E ⟨ws, s, R, E', h1, h2, h3, h4, h5⟩ => by rw [← h1.len]; exact (sem ws s R (noX _ _ _ _ h3)).1) fun cdv A outer s0 H vs Q E hr hg ⟨ws, s, R, E', h1, h2, h3, h4, h5⟩ => ?_⟩
  obtain ⟨s1, m1, e1, q⟩ := (sem ws s R (noX _ _ _ _ h3)).2 K H h2
  have h6 := (h4.ext e1).lw
  exact ⟨_, (body_ok cdv A outer s0 H E hr hg).nox, startD N ws, s1, _, renv_start h1, m1, q, ⟨fun env s' σ H' q e m r => h6 .non s' _ H' q e m rfl, h6, fun _ _ _ _ q => q.elim, fun _ _ _ _ q => q.elim⟩⟩
/-- the same where nothing is to be opened -/
theorem sem_plain {N ps : List Str} {sp : SpD} {tb : DS} (h : ∀ ws s R, sp ws s R X0 → ws.length = ps.length ∧ tb { nx := fun _ s' => Lw R .non s', rt := Lw R } (startD N ws) s) :
    ∀ ws s R, sp ws s R X0 → ws.length = ps.length ∧ ∀ K H, MRep K H s → ∃ s1, MRep K H s1 ∧ Stp H s H s1 ∧ tb { nx := fun _ s' => Lw R .non s', rt := Lw R } (startD N ws) s1 :=
  fun ws s R q => ⟨(h ws s R q).1, fun K H m => ⟨s, m, .refl _ _, (h ws s R q).2⟩⟩
end Dz
namespace Dz
open PySem PySem.Spec PyProof.Rows L2

/-! ### the law's call: the script is locked, nothing else is tracked -/
def scH (a : Addr) (z : HO) (c : Bool) : Hp := fun b => if c = true ∧ b = a then some z else none
theorem scH_some {a b : Addr} {z u : HO} {c : Bool} (h : scH a z c b = some u) : c = true ∧ b = a ∧ u = z := by
  unfold scH at h
  split at h
  · rename_i e
    exact ⟨e.1, e.2, (Option.some.inj h).symm⟩
  · cases h
theorem scH_off {a b : Addr} {z : HO} {c : Bool} (h : ¬ (c = true ∧ b = a)) : scH a z c b = none := if_neg h
theorem lawG {P : Program} {w : World} {K : PySem.W.Frag} {mg mb : Str → Option Value} {CX : CXT} {k : Nat} {fa a : Addr} {fd : FuncData} {x : Str} {sp : SpD} {s : Shared} {vs : List Value} {ns : List Int}
    (KX : K.In s.heap) (hns : s.heap.Ns mainGlobals mg) (hb : s.heap.Ns builtinsNs mb) (hbb : ∀ x : Str, x ≠ "__name__" → mb x = bootBuiltins x) (hlim : s.heap.NoLimit) (hg : s.gens = #[])
    (ha : s.heap.get? a = some { cls := .type "list", data := .seq vs.toArray }) (hi : IntsAre vs ns) (hl : ns.length ≤ sizeLine) (hr : Room k callerA)
    (F : ∀ base : Heap, K.In base → base.Ns mainGlobals mg → FnG P w K mg base CX k fa fd [x] (liftSp K sp)) (hbind : ∀ (t : Shared) (u : Value), BindsTo t fd ⟨[u], []⟩ [(x, u)])
    (hsp : sp [.lst (ns.map D.int)] ⟨fun _ => none, 1000000000000, []⟩ (fun v _ => v = .bl true) X0)
    (hCX : ∀ H e s', CX [] H s (fun _ _ _ => False) e s' → False) :
    codeAny (model P w) callerA (.call (.ref fa) ⟨[.ref a], []⟩) (fun r s' => r = .ok (.ret (.bool true)) ∧ OldK s.heap s'.heap ∧ s'.os = s.os ∧ AllBare s'.gens) s := by
  let z : HO := .frz { cls := .type "list", data := .seq vs.toArray } (.lst (ns.map V.int))
  let H : Hp := scH a z (K.lookup a).isNone
  have rv := vals_ints hi
  have lenV := hi.length
  have hok : HOk P w H s.heap := fun b u e => by
    obtain ⟨_, rfl, rfl⟩ := scH_some e
    exact ⟨ha, by rw [List.length_map]; exact hl, vs, _, rv, ha⟩
  have kN : ∀ {b : Addr} {o : Obj}, K.lookup b = some o → H b = none := fun {b o} e => scH_off fun ⟨c, q⟩ => by subst q; rw [e] at c; cases c
  have dN : ∀ {b : Addr} {o : Obj} {es : Array DictEntry} {ep : Nat}, s.heap.get? b = some o → o.data = .dict es ep → H b = none := fun {b o es ep} e d => scH_off fun ⟨_, q⟩ => by
    subst q
    rw [ha] at e
    cases e
    cases d
  have hK : K.In (hidT s.heap H) := fun b o e => hidT_get (KX b o e) (kN e)
  have nsH : ∀ {b : Addr} {m : Str → Option Value}, s.heap.Ns b m → (hidT s.heap H).Ns b m := by
    rintro b m ⟨o, es, ep, e, d, r⟩
    exact ⟨o, es, ep, hidT_get e (dN e d), d, r⟩
  have nl : (hidT s.heap H).NoLimit := by
    obtain ⟨mc, h1, h2⟩ := hlim
    exact ⟨mc, nsH h1, h2⟩
  have e0 : Env0 P w K mg (hidT s.heap H) callerA [] s H := ⟨rfl, ⟨hK, nsH hns, ⟨mb, nsH hb, hbb⟩, nl⟩, fun b o e => of_hidT e, Nat.le_of_eq (hidT_size _ _), trivial, fun b q => by simp [frs] at q, hok, .of_eq hg⟩
  have hS : FzL K H a (ns.map V.int) := by
    cases q : K.lookup a with
    | none =>
      have : H a = some z := if_pos ⟨by rw [q]; rfl, rfl⟩
      exact .inl (.inr ⟨_, fz_frz this⟩)
    | some o =>
      have e := KX a o q
      rw [ha] at e
      cases e
      exact .inr ⟨_, vs.toArray, _, q, rfl, rfl, rfl, by rw [List.size_toArray, lenV]; exact hl, by simpa using rv⟩
  have r0 : Reps K H [.lst (ns.map D.int)] [.ref a] := ⟨.ref a, [], rfl, ⟨a, _, rfl, hS, Reps.ofInts⟩, rfl⟩
  have m0 : MRep K H ⟨fun _ => none, 1000000000000, []⟩ := by
    refine ⟨fun _ _ e => ?_, fun _ _ _ _ e => ?_, fun _ e => ?_⟩
    · cases e
    · cases e
    · cases e
  have start : liftSp K sp [.ref a] H (fun v _ => v = .bl true) fun _ _ _ => False :=
    ⟨_, _, _, X0, r0, m0, hsp, fun w s' v H' q _ _ r => by subst q; exact r, fun _ _ _ _ _ q => q.elim⟩
  refine codeAny_mono ((F _ hK (nsH hns)).run callerA [] s H ⟨[.ref a], []⟩ [.ref a] [.ref a] _ _ hr rfl e0 (hbind s (.ref a)) (.cons rfl .nil) start) ?_
  rintro (e | (_ | _ | _ | u)) s' h
  · exact (hCX H e s' h).elim
  · exact h.elim
  · exact h.elim
  · exact h.elim
  · obtain ⟨v, H', os, bare, un, hok', r', q⟩ := h
    subst q
    cases (show u = Value.bool true from r')
    refine ⟨rfl, OldK.of_keep fun b o e => ?_, os, bare⟩
    cases q : H b with
    | none => exact un.keep b o e q (by simp [frs]) (by simp)
    | some y =>
      obtain ⟨_, rfl, rfl⟩ := scH_some q
      have := (hok' b _ (un.frzs b _ _ q)).1
      rw [ha] at e
      cases e
      exact this
/-- from the head's facts to the row -/
theorem walkG {l : PySem.W.OpenLaw} {n k : Nat} {q : Program} {loose : List Str} {XP : (Str → Option Value) → Heap → Prop} {YP : World → Heap → Prop} {d : DefRec} {CX : World → CXT} {x : Str}
    (hn : l.most = some n) (hn2 : n ≤ sizeLine) (hdf : d.params.defaults = []) (hr : Room k callerA)
    (F : ∀ (w : World) (mg : Str → Option Value) (fa : Addr) (h : Heap), YP w h → h.Ns mainGlobals mg → mg d.name = some (.ref fa) →
      ∃ (K : PySem.W.Frag) (fd : FuncData) (sp : SpD), K.In h ∧ (∀ (s : Shared) (u : Value), BindsTo s fd ⟨[u], []⟩ [(x, u)]) ∧
        (∀ ns : List Int, ns.length ≤ n → (∀ z ∈ ns, Builtin.Int.intBits z ≤ 1048576) → sp [.lst (ns.map D.int)] ⟨fun _ => none, 1000000000000, []⟩ (fun v _ => v = .bl true) X0) ∧
        ∀ base : Heap, K.In base → base.Ns mainGlobals mg → FnG l.prog w K mg base (CX w) k fa fd [x] (liftSp K sp))
    (hCX : ∀ (w : World) (H : Hp) (s : Shared) (e : Value) (s' : Shared), CX w [] H s (fun _ _ _ => False) e s' → False) :
    PySem.W.WalkO q loose XP YP l.row.toRowW d [] (fun f vs => PySem.call f vs) := by
  refine Att.attach_callB hn hdf fun w s0 s1 mg mb fa o pm cd doc a vs ns G Y ho hd hcd hmg hobj hints hlen hbits hg => ?_
  obtain ⟨K, fd, sp, KX, hb, hsp, hF⟩ := F w mg fa _ Y G.T.g hmg
  exact lawG KX G.T.g G.T.b G.T.builtins G.T.nolimit hg hobj hints (Nat.le_trans hlen hn2) hr hF hb (hsp ns hlen hbits) fun H e s' => hCX w H s1 e s'
end Dz
namespace Dz
open PySem PySem.Spec PyProof.Rows L2

/-! ### short names for the printed readings -/
abbrev rSub : D2 := rI (fun _ _ => True) fun i j => i - j
abbrev rDiv : D2 := rI CDiv fun i j => i / j
abbrev rMod : D2 := rI (fun _ j => 0 < j) fun i j => i % j
abbrev rPow : D2 := rI CPow fun i j => i ^ j.toNat
abbrev rLt : D2 := rCmp (fun i j => decide (i < j)) fun a b => decide (a < b)
abbrev rLe : D2 := rCmp (fun i j => decide (i ≤ j)) fun a b => !decide (b < a)
abbrev rGt : D2 := rCmp (fun i j => decide (j < i)) fun a b => decide (b < a)
abbrev rGe : D2 := rCmp (fun i j => decide (j ≤ i)) fun a b => !decide (a < b)
abbrev rEq : D2 := rEqv id
abbrev rNe : D2 := rEqv (!·)
abbrev rIs : D2 := rIsN id
abbrev rIsNot : D2 := rIsN (!·)
abbrev rMax2 : DL := rInt2 fun i j => if j > i then j else i
abbrev rMin2 : DL := rInt2 fun i j => if j < i then j else i
abbrev rAll : DL := rAllU fun l => l.all id
abbrev rAny : DL := rAllU fun l => l.any id
theorem bb_len : bootBuiltins "len" = some (.builtin "len") := by decide +kernel
theorem bb_abs : bootBuiltins "abs" = some (.builtin "abs") := by decide +kernel
theorem bb_max : bootBuiltins "max" = some (.builtin "max") := by decide +kernel
theorem bb_min : bootBuiltins "min" = some (.builtin "min") := by decide +kernel
theorem bb_int : bootBuiltins "int" = some (.type "int") := by decide +kernel
theorem bb_str : bootBuiltins "str" = some (.type "str") := by decide +kernel
theorem bb_bool : bootBuiltins "bool" = some (.type "bool") := by decide +kernel
theorem bb_list : bootBuiltins "list" = some (.type "list") := by decide +kernel
theorem bb_tuple : bootBuiltins "tuple" = some (.type "tuple") := by decide +kernel
theorem bb_dict : bootBuiltins "dict" = some (.type "dict") := by decide +kernel
theorem bb_set : bootBuiltins "set" = some (.type "set") := by decide +kernel
theorem bb_sum : bootBuiltins "sum" = some (.builtin "sum") := by decide +kernel
theorem bb_all : bootBuiltins "all" = some (.builtin "all") := by decide +kernel
theorem bb_any : bootBuiltins "any" = some (.builtin "any") := by decide +kernel
theorem bb_repr : bootBuiltins "repr" = some (.builtin "repr") := by decide +kernel
theorem bb_sorted : bootBuiltins "sorted" = some (.builtin "sorted") := by decide +kernel
theorem bb_isinstance : bootBuiltins "isinstance" = some (.builtin "isinstance") := by decide +kernel
section
variable {X : Cx} {pos : Pos}
/-- -a -/
def rNeg : D1 := fun x s R => match x with
  | .int i => R (.int (-i)) s
  | _ => False
theorem pd_neg {a : Expr} {ta : DE} (ha : PD X a ta) : PD X (.UnaryOp .USub a pos) (dUn rNeg ta) :=
  pe_imp (pe_un un_neg ha) fun σ H Q ⟨env, s, R, h1, h2, h3, h4⟩ => ⟨env, s, _, h1, h2, h3, fun w s1 v H1 q e m r => by
    unfold rNeg at q
    split at q
    · rename_i i
      exact ⟨i, r, h4 _ _ _ _ q e m rfl⟩
    · exact q.elim⟩
/-- a module's numbers and texts -/
theorem pd_gI {x : Str} {i : Int} (hg : Gl X x) (hm : ∃ t, X.mg x = some (.int i t)) (hd : (x == ("__debug__" : Str)) = false := by decide) : PD X (.Name x pos) (dC (.int i)) := by
  obtain ⟨t, h⟩ := hm
  exact pd_glob (v := .int i) hg h ⟨t, rfl⟩ rfl hd
theorem pd_gS {x z : Str} (hg : Gl X x) (hm : ∃ t, X.mg x = some (.str z t)) (hd : (x == ("__debug__" : Str)) = false := by decide) : PD X (.Name x pos) (dC (.str z)) := by
  obtain ⟨t, h⟩ := hm
  exact pd_glob (v := .str z) hg h ⟨t, rfl⟩ rfl hd
/-- a < b < c -/
def dChain (r r' : D2) (ta tb tc : DE) : DE := fun env s R => ta env s fun x s1 => tb env s1 fun y s2 => r x y s2 fun z s3 => match z with
  | .bl true => tc env s3 fun w s4 => r' y w s4 R
  | .bl false => R (.bl false) s3
  | _ => False
theorem dChain_imp (K : PySem.W.Frag) (r r' : D2) (ta tb tc : DE) : ∀ σ H Q, liftE K (dChain r r' ta tb tc) σ H Q → tChain (lift2 K r) (lift2 K r') (liftE K ta) (liftE K tb) (liftE K tc) σ H Q := fun σ H Q ⟨env, s, R, h1, h2, h3, h4⟩ =>
  ⟨env, s, _, h1, h2, h3, fun x s1 v H1 q e1 m1 r1 => ⟨env, s1, _, h1.ext e1.ext, m1, q, fun y s2 u H2 q2 e2 m2 r2 => ⟨x, y, s2, _, Rep.ext e2.ext _ _ r1, r2, m2, q2, fun z s3 zv H3 q3 e3 m3 r3 => by
    have e := (e1.trans e2).trans e3
    split at q3
    · exact ⟨true, r3, by rw [if_pos rfl]; exact ⟨env, s3, _, h1.ext e.ext, m3, q3, fun w s4 wv H4 q4 e4 m4 r4 => ⟨y, w, s4, R, Rep.ext e4.ext _ _ (Rep.ext e3.ext _ _ r2), r4, m4, q4, h4.ext (e.trans e4)⟩⟩⟩
    · exact ⟨false, r3, by rw [if_neg Bool.false_ne_true]; exact h4 _ _ _ _ q3 e m3 rfl⟩
    · exact q3.elim⟩⟩⟩
theorem pd_chain {op op' : CmpOp} {a b c : Expr} {ta tb tc : DE} {r r' : D2} (ho : OpR X (compareOp op) (lift2 X.K r)) (ho' : OpR X (compareOp op') (lift2 X.K r')) (ha : PD X a ta) (hb : PD X b tb) (hc : PD X c tc) (hm : lastMarks [op, op'] [b, c] = false := by with_unfolding_all rfl) :
    PD X (.Compare a [op, op'] [b, c] pos) (dChain r r' ta tb tc) := pe_imp (pe_chain ho ho' ha hb hc hm) (dChain_imp X.K r r' ta tb tc)
theorem pdt_chain {op op' : CmpOp} {a b c : Expr} {ta tb tc : DE} {r r' : D2} (ho : OpR X (compareOp op) (lift2 X.K r)) (ho' : OpR X (compareOp op') (lift2 X.K r')) (ha : PD X a ta) (hb : PD X b tb) (hc : PD X c tc) (hm : lastMarks [op, op'] [b, c] = false := by with_unfolding_all rfl) :
    PDT X (.Compare a [op, op'] [b, c] pos) (dB (dChain r r' ta tb tc)) :=
  pt_imp (pt_chain ho ho' ha hb hc hm) fun σ H Q ⟨env, s, R, h1, h2, h3, h4⟩ => dChain_imp X.K r r' ta tb tc σ H _ ⟨env, s, _, h1, h2, h3, fun w s1 v H1 q e1 m1 r1 => by
    cases w with
    | bl b => exact ⟨b, r1, h4 b s1 H1 q e1 m1⟩
    | _ => exact q.elim⟩
end
end Dz
namespace Dz
open PySem PySem.Spec PyProof.Rows L2

/-! ### trees of letters -/
def chr (c : Nat) : D := .str ⟨#[c]⟩
inductive Tr where
  | nil
  | node (l : Tr) (a : Nat) (r : Tr)
deriving DecidableEq
def Tr.d : Tr → D
  | .nil => .non
  | .node l a r => .tup [l.d, chr a, r.d]
def Tr.size : Tr → Nat
  | .nil => 0
  | .node l _ r => l.size + 1 + r.size
def Tr.depth : Tr → Nat
  | .nil => 0
  | .node l _ r => 1 + max l.depth r.depth
def Tr.mir : Tr → Tr
  | .nil => .nil
  | .node l a r => .node r.mir a l.mir
/-- every label is such -/
def Tr.all (p : Nat → Prop) : Tr → Prop
  | .nil => True
  | .node l a r => l.all p ∧ p a ∧ r.all p
theorem Tr.depth_le (t : Tr) : t.depth ≤ t.size := by
  induction t with
  | nil => exact Nat.le_refl _
  | node l a r h1 h2 => simp only [Tr.depth, Tr.size]; omega
theorem Tr.size_mir (t : Tr) : t.mir.size = t.size := by
  induction t with
  | nil => rfl
  | node l a r h1 h2 => simp only [Tr.mir, Tr.size, h1, h2]; omega
theorem chr_inj {a b : Nat} (h : chr a = chr b) : a = b := by
  unfold chr at h
  injection h with h
  injection h with h
  simpa using h
theorem Tr.d_inj : ∀ {t u : Tr}, t.d = u.d → t = u
  | .nil, .nil, _ => rfl
  | .nil, .node _ _ _, h => by simp [Tr.d] at h
  | .node _ _ _, .nil, h => by simp [Tr.d] at h
  | .node l a r, .node l' a' r', h => by
    simp only [Tr.d, D.tup.injEq, List.cons.injEq, and_true] at h
    rw [Tr.d_inj h.1, chr_inj h.2.1, Tr.d_inj h.2.2]
def Tr.isNil : Tr → Bool
  | .nil => true
  | .node _ _ _ => false
@[simp] theorem isNon_d (t : Tr) : isNon t.d = t.isNil := by cases t <;> rfl
theorem isNon_non : isNon .non = true := rfl
theorem isNon_tup {ws : List D} : isNon (.tup ws) = false := rfl
theorem isNon_lst {ws : List D} : isNon (.lst ws) = false := rfl
theorem isNon_str {x : Str} : isNon (.str x) = false := rfl
theorem isNon_int {i : Int} : isNon (.int i) = false := rfl
theorem isNon_bl {b : Bool} : isNon (.bl b) = false := rfl
theorem isNon_ref {a : Addr} : isNon (.ref a) = false := rfl
theorem isNon_dic {ks : List Key} {ws : List D} : isNon (.dic ks ws) = false := rfl
theorem isNon_ty {n : String} : isNon (.ty n) = false := rfl
theorem Tr.isNil_iff {t : Tr} : t.isNil = true ↔ t = .nil := by cases t <;> simp [Tr.isNil]
/-- a def of one tree, of depth below n -/
def spT (g : Tr → D) (n : Nat) : SpD := fun ws s R _ => ∃ t : Tr, ws = [t.d] ∧ t.depth < n ∧ R (g t) s
theorem spT_iff {g : Tr → D} {n : Nat} {t : Tr} {s : Sg} {R : KD} {E : XD} : spT g n [t.d] s R E ↔ t.depth < n ∧ R (g t) s := by
  constructor
  · rintro ⟨u, e, h⟩
    simp only [List.cons.injEq, and_true] at e
    rw [Tr.d_inj e]
    exact h
  · exact fun h => ⟨t, rfl, h⟩
theorem spT_X {g : Tr → D} {n : Nat} : ∀ ws s R E, spT g n ws s R E → spT g n ws s R X0 := fun ws s R E h => h
theorem df_false {P : Program} {w : World} {K : PySem.W.Frag} {mg : Str → Option Value} {base : Heap} {k : Nat} {f : Addr} {fd : FuncData} {x qual : Str} {params : Arguments} {body : List Stmt} {scope : Scope} {kws : List (Str × V)} {ps : List Str} {sp : SpD}
    (F : FunD K x qual params body scope [] kws f fd) (hm : mg x = some (.ref f)) (hb : Binds K fd ps []) (no : ∀ ws s R E, ¬ sp ws s R E) : Df P w K mg base CX0 k x ps sp :=
  ⟨f, fd, hm, F.kp, hb, ⟨fun vs H Q E ⟨ws, s, R, E', _, _, h, _⟩ => (no _ _ _ _ h).elim, fun A outer s H args us vs Q E _ _ _ _ _ ⟨ws, s', R, E', _, _, h, _⟩ => (no _ _ _ _ h).elim⟩⟩
end Dz
namespace Dz
open PySem PySem.Spec PyProof.Rows L2
theorem Sg.put_mk {M : Mm} {n : Nat} {pv : List Addr} {a : Addr} {o : MO} : (Sg.mk M n pv).put a o = Sg.mk (M.put a o) n pv := rfl
theorem Sg.del_mk {M : Mm} {n : Nat} {pv : List Addr} {a : Addr} : (Sg.mk M n pv).del a = Sg.mk (M.del a) n pv := rfl
theorem sg_n (s : Sg) : ({ s with n := s.n } : Sg) = s := rfl
theorem cmul_l {i j : Int} (h : 0 ≤ i) (h2 : i < 2 ^ 64) : CMul i j := .inl ⟨by omega, h2⟩
theorem cmul_r {i j : Int} (h : 0 ≤ j) (h2 : j < 2 ^ 64) : CMul i j := .inr ⟨by omega, h2⟩
theorem cmul_mod {i j k : Int} (h : 0 < k) (h2 : k ≤ 2 ^ 64) : CMul (i % k) j := .inl ⟨by have := Int.emod_nonneg i (show k ≠ 0 by omega); omega, by have := Int.emod_lt_of_pos i h; omega⟩
theorem atI_mod {xs : List Int} {c : Int} (h : 0 < xs.length) : ∃ x : Int, L2.atI (xs.map D.int) (c % (xs.length : Int)) = some (.int x) ∧ (c % (xs.length : Int)).toNat < xs.length ∧ x ∈ xs ∧ ixN xs.length (c % (xs.length : Int)) = some (c % (xs.length : Int)).toNat := by
  have h1 := Int.emod_nonneg c (show (xs.length : Int) ≠ 0 by omega)
  have h2 := Int.emod_lt_of_pos c (show (0 : Int) < xs.length by omega)
  have h3 : (c % (xs.length : Int)).toNat < xs.length := by omega
  have h4 : ixN xs.length (c % (xs.length : Int)) = some (c % (xs.length : Int)).toNat := by
    unfold ixN
    rw [if_pos h1, if_pos h2]
  refine ⟨xs[(c % (xs.length : Int)).toNat], ?_, h3, List.getElem_mem _, h4⟩
  unfold L2.atI
  rw [List.length_map, h4]
  simp [h3]
theorem map_set_int (xs : List Int) (k : Nat) (v : Int) : (xs.map D.int).set k (D.int v) = (xs.set k v).map D.int := by
  rw [List.map_set]
/-- the deck of draws -/
def DkI (n : Nat) (st : Bx) : Prop := ∃ (cells rests : List Int) (c : Int), st = [.inr cells, .inr rests, .inl c] ∧ cells.length = rests.length ∧ 0 < cells.length ∧ cells.length ≤ 1000 ∧ 0 ≤ c ∧ c + n ≤ 1000000000000
def Dk (s : Sg) (p : Addr) : Prop := s.M p = some (.box DkI)
def spend (s : Sg) (k : Nat) : Sg := { s with n := s.n - k }
theorem spend_M {s : Sg} {k : Nat} : (spend s k).M = s.M := rfl
theorem spend_pv {s : Sg} {k : Nat} : (spend s k).pv = s.pv := rfl
theorem spend_n {s : Sg} {k : Nat} : (spend s k).n = s.n - k := rfl
theorem spend_spend {s : Sg} {j k : Nat} : spend (spend s j) k = spend s (j + k) := by
  unfold spend
  simp only [Nat.sub_sub]
theorem spend_zero {s : Sg} : spend s 0 = s := rfl
theorem spend_less {s : Sg} {k : Nat} : Less s (spend s k) := ⟨fun _ _ h => h, Nat.sub_le _ _, rfl⟩
theorem spend_put {s : Sg} {k : Nat} {p : Addr} {o : MO} : spend (s.put p o) k = (spend s k).put p o := rfl
theorem spend_del {s : Sg} {k : Nat} {p : Addr} : spend (s.del p) k = (spend s k).del p := rfl
theorem Dk.spend {s : Sg} {p : Addr} {k : Nat} (h : Dk s p) : Dk (spend s k) p := h
/-- more may be spent than was -/
theorem Lw.more {R : KD} {w : D} {s : Sg} {j k : Nat} (h : j ≤ k) (q : R w (spend s k)) : Lw R w (spend s j) := ⟨spend s k, Less.clo ⟨fun _ _ e => e, by show s.n - k ≤ s.n - j; omega, rfl⟩, q⟩
theorem Lw.less {R : KD} {w : D} {s s' : Sg} (l : Less s s') (q : R w s') : Lw R w s := ⟨_, l.clo, q⟩
def spNext : SpD := fun ws s R _ => ∃ (p : Addr) (m : Int), ws = [.ref p, .int m] ∧ Dk s p ∧ 0 < m ∧ m < 1000000 ∧ 1 ≤ s.n ∧ ∀ r : Int, 0 ≤ r → r < m → R (.int r) (spend s 1)
theorem spNext_iff {p : Addr} {m : Int} {s : Sg} {R : KD} {E : XD} : spNext [.ref p, .int m] s R E ↔ Dk s p ∧ 0 < m ∧ m < 1000000 ∧ 1 ≤ s.n ∧ ∀ r : Int, 0 ≤ r → r < m → R (.int r) (spend s 1) := by
  constructor
  · rintro ⟨q, m', e, h⟩
    simp only [List.cons.injEq, D.ref.injEq, D.int.injEq, and_true] at e
    rw [e.1, e.2]
    exact h
  · exact fun h => ⟨p, m, rfl, h⟩
theorem next_fin {M M' : Mm} {n k : Nat} {p a b : Addr} {cells rs rests : List Int} {c r m : Int} {R : KD} (hb : M p = some (.box DkI)) (hn : 1 ≤ n) (hk : n ≤ k) (hl : cells.length = rests.length) (hl0 : 0 < cells.length) (hl1 : cells.length ≤ 1000) (hc0 : 0 ≤ c) (hc1 : c + k ≤ 1000000000000)
    (e1 : a ≠ b) (np1 : p ≠ a) (np2 : p ≠ b) (hv : ∀ q ∈ [a, b], M q = none) (one : ∀ x y I J, M x = some (.box I) → M y = some (.box J) → x = y) (hrs : rs.length = rests.length)
    (m1 : M' p = some (.lst [.ref a, .ref b, .int (c + 1)])) (m2 : M' a = some (.lst (cells.map D.int))) (m3 : M' b = some (.lst (rs.map D.int))) (m4 : ∀ q, q ≠ p → q ≠ a → q ≠ b → M' q = M q)
    (hR : ∀ r : Int, 0 ≤ r → r < m → R (.int r) (spend ⟨M, n, [a, b]⟩ 1)) (h0 : 0 ≤ r) (h1 : r < m) : Lw R (.int r) ⟨M', n, []⟩ := by
  refine ⟨_, ?_, hR r h0 h1⟩
  refine box_close (st := [.inr cells, .inr rs, .inl (c + 1)]) (k := n - 1) ⟨cells, rs, c + 1, rfl, by omega, hl0, hl1, by omega, by omega⟩ (Nat.le_refl _) m1 ⟨m2, m3, rfl⟩ ?_ ?_ rfl hb (fun q hq => hv q hq) (fun q o hq hm => ⟨?_, fun J e => ?_⟩)
  · simp [spend, e1]
  · simp [spend, np1, np2]
  · have nqa : q ≠ a := fun e => by subst e; rw [show (spend ⟨M, n, [q, b]⟩ 1).M q = M q from rfl, hv q (by simp)] at hm; cases hm
    have nqb : q ≠ b := fun e => by subst e; rw [show (spend ⟨M, n, [a, q]⟩ 1).M q = M q from rfl, hv q (by simp)] at hm; cases hm
    rw [← hm]; exact m4 q hq nqa nqb
  · subst e
    exact hq (one q p J DkI hm hb)
end Dz
namespace Dz
open PySem PySem.Spec PyProof.Rows L2
section
variable {w : D} {ws : List D} {g : DG} {tt : DT} {te : DE} {vs : List Nat} {env : Ev} {R : List D → Sg → Prop}
/-- a comprehension that leaves the state alone -/
theorem lc_pure {s : Sg} (f : D → Option D) : ∀ {l acc : List D}, asI s w = some ws → (∀ x ∈ l, ∀ (k : KD) (B : Sg → Prop), (match f x with | some y => k y s | none => B s) → g x (wipeD env vs) s fun env2 s2 => tt env2 s2 fun b s3 => if b = true then te env2 s3 k else B s3) → acc.length + l.length ≤ 1000000 → R (acc ++ l.filterMap f) s → dLcL w ws g tt te vs env R l acc s
  | [], acc, h, st, hl, hR => ⟨h, by simpa using hR⟩
  | x :: l, acc, h, st, hl, hR => by
    refine ⟨h, st x List.mem_cons_self (fun y s4 => acc.length < 1000000 ∧ dLcL w ws g tt te vs env R l (acc ++ [y]) s4) _ ?_⟩
    rw [List.length_cons] at hl
    cases e : f x with
    | none =>
      rw [List.filterMap_cons_none e] at hR
      exact lc_pure f h (fun y hy => st y (List.mem_cons_of_mem _ hy)) (by omega) hR
    | some y =>
      rw [List.filterMap_cons_some e] at hR
      exact ⟨by omega, lc_pure f h (fun y hy => st y (List.mem_cons_of_mem _ hy)) (by rw [List.length_append, List.length_cons, List.length_nil]; omega) (by rw [List.append_assoc]; exact hR)⟩
/-- where every part is kept -/
theorem lc_map {s : Sg} (f : D → D) {l acc : List D} (h : asI s w = some ws) (st : ∀ x ∈ l, ∀ (k : KD) (B : Sg → Prop), k (f x) s → g x (wipeD env vs) s fun env2 s2 => tt env2 s2 fun b s3 => if b = true then te env2 s3 k else B s3) (hl : acc.length + l.length ≤ 1000000) (hR : R (acc ++ l.map f) s) : dLcL w ws g tt te vs env R l acc s :=
  lc_pure (fun x => some (f x)) h (fun x hx k B q => st x hx k B q) hl (by rw [show (fun x => some (f x)) = some ∘ f from rfl, List.filterMap_eq_map]; exact hR)
/-- where each part takes c draws -/
theorem lc_draw {s : Sg} (c : Nat) (P : D → Prop) : ∀ {l acc : List D} {j : Nat}, asI s w = some ws → (∀ t : Nat, asI (spend s t) w = asI s w) → (∀ x ∈ l, ∀ (k : KD) (B : Sg → Prop) (t : Nat), t + c ≤ j + c * l.length → (∀ y, P y → k y (spend s (t + c))) → g x (wipeD env vs) (spend s t) fun env2 s2 => tt env2 s2 fun b s3 => if b = true then te env2 s3 k else B s3) → acc.length + l.length ≤ 1000000 → (∀ ys : List D, ys.length = l.length → (∀ y ∈ ys, P y) → R (acc ++ ys) (spend s (j + c * l.length))) → dLcL w ws g tt te vs env R l acc (spend s j)
  | [], acc, j, h, hs, st, hl, hR => ⟨(hs j).trans h, by simpa using hR [] rfl (fun _ h => nomatch h)⟩
  | x :: l, acc, j, h, hs, st, hl, hR => by
    rw [List.length_cons] at hl
    have e : j + c * (x :: l).length = (j + c) + c * l.length := by rw [List.length_cons, Nat.mul_add]; omega
    refine ⟨(hs j).trans h, st x List.mem_cons_self (fun y s4 => acc.length < 1000000 ∧ dLcL w ws g tt te vs env R l (acc ++ [y]) s4) _ j (by rw [e]; omega) fun y hy => ⟨by omega, ?_⟩⟩
    refine lc_draw c P h hs (fun z hz k B t ht q => st z (List.mem_cons_of_mem _ hz) k B t (by rw [e]; exact ht) q) (by rw [List.length_append, List.length_cons, List.length_nil]; omega) fun ys hys hp => ?_
    rw [← e, List.append_assoc]
    exact hR (y :: ys) (by rw [List.length_cons, List.length_cons, hys]) fun z hz => by
      rcases List.mem_cons.mp hz with rfl | hz
      · exact hy
      · exact hp z hz
end
theorem rg_len {lo : Int} {n : Nat} : (rg lo n).length = n := by simp [rg]
theorem rg_mem {lo : Int} {n : Nat} {x : D} (h : x ∈ rg lo n) : ∃ k : Nat, k < n ∧ x = .int (lo + k) := by
  unfold rg at h
  obtain ⟨k, hk, rfl⟩ := List.mem_map.mp h
  exact ⟨k, by simpa using hk, rfl⟩
theorem asI_tup {s : Sg} {ws : List D} : asI s (.tup ws) = some ws := rfl
/-! places and cuts -/
theorem atI_nat {α : Type} {xs : List α} {i : Int} (h : 0 ≤ i) (h2 : i < xs.length) : L2.atI xs i = xs[i.toNat]? := by
  unfold L2.atI ixN
  rw [if_pos h, if_pos h2]
  rfl
theorem atI_map {α β : Type} {f : α → β} {xs : List α} {i : Int} (h : 0 ≤ i) (h2 : i < xs.length) : ∃ x, xs[i.toNat]? = some x ∧ x ∈ xs ∧ L2.atI (xs.map f) i = some (f x) := by
  have h3 : i.toNat < xs.length := by omega
  refine ⟨xs[i.toNat], by simp [h3], List.getElem_mem _, ?_⟩
  rw [atI_nat h (by rw [List.length_map]; exact h2), List.getElem?_map]
  simp [h3]
theorem ixN_nat {n : Nat} {i : Int} (h : 0 ≤ i) (h2 : i < n) : ixN n i = some i.toNat := by
  unfold ixN
  rw [if_pos h, if_pos h2]
theorem cut_to {xs : List D} {i : Int} (h : 0 ≤ i) : cutD xs none (some i) = xs.take i.toNat := by
  unfold cutD
  rw [show HT.sIx xs.length 0 none = 0 from rfl, List.drop_zero, Nat.sub_zero]
  obtain ⟨k, rfl⟩ := Int.eq_ofNat_of_zero_le h
  rw [HT.sIx_nat]
  simp only [Int.toNat_natCast]
  rw [Nat.min_def]
  split
  · rfl
  · rw [List.take_of_length_le (Nat.le_refl _), List.take_of_length_le (by omega)]
theorem cut_from {xs : List D} {i : Int} (h : 0 ≤ i) : cutD xs (some i) none = xs.drop i.toNat := by
  unfold cutD
  rw [show HT.sIx xs.length xs.length none = xs.length from rfl]
  obtain ⟨k, rfl⟩ := Int.eq_ofNat_of_zero_le h
  rw [HT.sIx_nat]
  simp only [Int.toNat_natCast]
  rw [Nat.min_def]
  split
  · rw [List.take_of_length_le (by rw [List.length_drop]; omega)]
  · rw [List.drop_of_length_le (Nat.le_refl _), List.drop_of_length_le (by omega)]
    simp
theorem map_erase {α β : Type} (f : α → β) : ∀ (xs : List α) (i : Nat), (xs.map f).eraseIdx i = (xs.eraseIdx i).map f
  | [], i => rfl
  | x :: xs, 0 => rfl
  | x :: xs, i + 1 => by
    show f x :: (xs.map f).eraseIdx i = f x :: (xs.eraseIdx i).map f
    rw [map_erase f xs i]
/-- what was known still is; at most j draws were made -/
structure Ov (s s' : Sg) (j : Nat) : Prop where
  m : ∀ a o, s.M a = some o → s'.M a = some o
  n : s.n ≤ s'.n + j
  v : s'.pv = s.pv
theorem Ov.refl (s : Sg) : Ov s s 0 := ⟨fun _ _ h => h, Nat.le_refl _, rfl⟩
theorem Ov.put {s s' : Sg} {j : Nat} {q : Addr} {o : MO} (h : Ov s s' j) (hq : s.M q = none) : Ov s (s'.put q o) j :=
  ⟨fun a u e => (Mm.put_ne fun z => by subst z; rw [hq] at e; cases e).trans (h.m a u e), h.n, h.v⟩
theorem Ov.del {s s' : Sg} {j : Nat} {q : Addr} (h : Ov s s' j) (hq : s.M q = none) : Ov s (s'.del q) j :=
  ⟨fun a u e => (Mm.del_ne fun z => by subst z; rw [hq] at e; cases e).trans (h.m a u e), h.n, h.v⟩
theorem Ov.spend {s s' : Sg} {j k : Nat} (h : Ov s s' j) : Ov s (spend s' k) (j + k) := ⟨h.m, by have := h.n; show s.n ≤ s'.n - k + (j + k); omega, h.v⟩
theorem Ov.none {s s' : Sg} {j : Nat} {q : Addr} (h : Ov s s' j) (hq : s'.M q = none) : s.M q = none := by
  cases e : s.M q with
  | none => rfl
  | some o => rw [h.m q o e] at hq; cases hq
theorem Ov.dk {s s' : Sg} {j : Nat} {p : Addr} (h : Ov s s' j) (hp : Dk s p) : Dk s' p := h.m _ _ hp
theorem Ov.less {s s' : Sg} {j k : Nat} (h : Ov s s' j) (hk : j ≤ k) : Less s' (Dz.spend s k) := ⟨h.m, by have := h.n; show s.n - k ≤ s'.n; omega, h.v.symm⟩
theorem Ov.lw {s s' : Sg} {j k : Nat} {R : KD} {w : D} (h : Ov s s' j) (hk : j ≤ k) (q : R w (Dz.spend s k)) : Lw R w s' := ⟨_, (h.less hk).clo, q⟩
theorem Ov.lw0 {s s' : Sg} {R : KD} {w : D} (h : Ov s s' 0) (q : R w s) : Lw R w s' := h.lw (Nat.le_refl _) q
theorem Ov.mono {s s' : Sg} {j k : Nat} (h : Ov s s' j) (hk : j ≤ k) : Ov s s' k := ⟨h.m, by have := h.n; omega, h.v⟩
theorem Ov.trans {s s' s'' : Sg} {j k : Nat} (h : Ov s s' j) (g : Ov s' s'' k) : Ov s s'' (j + k) := ⟨fun a o e => g.m a o (h.m a o e), by have := h.n; have := g.n; omega, g.v.trans h.v⟩
theorem Dk.ne {s : Sg} {p q : Addr} {ws : List D} (h : Dk s p) (g : s.M q = some (.lst ws)) : p ≠ q := fun z => by subst z; rw [show s.M p = _ from h] at g; cases g
theorem Dk.neN {s : Sg} {p q : Addr} (h : Dk s p) (g : s.M q = none) : p ≠ q := fun z => by subst z; rw [show s.M p = _ from h] at g; cases g
theorem Dk.put {s : Sg} {p q : Addr} {o : MO} (h : Dk s p) (g : p ≠ q) : Dk (s.put q o) p := (Mm.put_ne g).trans h
end Dz
namespace Dz
open PySem PySem.Spec PyProof.Rows L2

/-! ### data of a known depth -/
mutual
def fit : D → Nat → Prop
  | .non, _ => True
  | .bl _, _ => True
  | .int _, _ => True
  | .str x, _ => PyData.strOk x = true
  | .tup ws, n => 0 < n ∧ ws.length ≤ 100000 ∧ fits ws (n - 1)
  | .lst ws, n => 0 < n ∧ ws.length ≤ 100000 ∧ fits ws (n - 1)
  | .dic _ _, _ => False
  | .ref _, _ => False
  | .ty _, _ => False
def fits : List D → Nat → Prop
  | [], _ => True
  | w :: ws, n => fit w n ∧ fits ws n
end
def pyD (w : D) : PyData := (toPy w).getD .none
def pyDs (ws : List D) : List PyData := (toPys ws).getD []
mutual
theorem fit_py : ∀ (w : D) (n : Nat), fit w n → toPy w = some (pyD w) ∧ (pyD w).canLay0 = true ∧ (pyD w).depth ≤ n
  | .non, n, h => ⟨rfl, rfl, Nat.zero_le _⟩
  | .bl _, n, h => ⟨rfl, rfl, Nat.zero_le _⟩
  | .int _, n, h => ⟨rfl, rfl, Nat.zero_le _⟩
  | .str x, n, h => ⟨rfl, h, Nat.zero_le _⟩
  | .tup ws, n, h => by
    have h' : 0 < n ∧ ws.length ≤ 100000 ∧ fits ws (n - 1) := h
    obtain ⟨h0, _, h⟩ := h'
    obtain ⟨e, c, d⟩ := fits_py ws (n - 1) h
    have e2 : toPy (.tup ws) = some (.tuple (pyDs ws)) := by rw [toPy, e]; rfl
    have e3 : pyD (.tup ws) = .tuple (pyDs ws) := by rw [pyD, e2]; rfl
    rw [e3]
    exact ⟨e2, c, by show PyData.depthAll _ + 1 ≤ n; omega⟩
  | .lst ws, n, h => by
    have h' : 0 < n ∧ ws.length ≤ 100000 ∧ fits ws (n - 1) := h
    obtain ⟨h0, _, h⟩ := h'
    obtain ⟨e, c, d⟩ := fits_py ws (n - 1) h
    have e2 : toPy (.lst ws) = some (.list (pyDs ws)) := by rw [toPy, e]; rfl
    have e3 : pyD (.lst ws) = .list (pyDs ws) := by rw [pyD, e2]; rfl
    rw [e3]
    exact ⟨e2, c, by show PyData.depthAll _ + 1 ≤ n; omega⟩
  | .dic _ _, n, h => h.elim
  | .ref _, n, h => h.elim
  | .ty _, n, h => h.elim
theorem fits_py : ∀ (ws : List D) (n : Nat), fits ws n → toPys ws = some (pyDs ws) ∧ PyData.canLayAll0 (pyDs ws) = true ∧ PyData.depthAll (pyDs ws) ≤ n
  | [], n, h => ⟨rfl, rfl, Nat.zero_le _⟩
  | w :: ws, n, h => by
    have h' : fit w n ∧ fits ws n := h
    obtain ⟨h1, h2⟩ := h'
    obtain ⟨e1, c1, d1⟩ := fit_py w n h1
    obtain ⟨e2, c2, d2⟩ := fits_py ws n h2
    have e3 : toPys (w :: ws) = some (pyD w :: pyDs ws) := by rw [toPys, e1, e2]; rfl
    have e4 : pyDs (w :: ws) = pyD w :: pyDs ws := by rw [pyDs, e3]; rfl
    rw [e4]
    refine ⟨e3, ?_, ?_⟩
    · show (PyData.canLay0 _ && PyData.canLayAll0 _) = true
      rw [c1, c2]; rfl
    · show max _ _ ≤ n
      exact Nat.max_le.mpr ⟨d1, d2⟩
end
mutual
theorem fit_mono : ∀ (w : D) (n m : Nat), n ≤ m → fit w n → fit w m
  | .non, n, m, _, h => h
  | .bl _, n, m, _, h => h
  | .int _, n, m, _, h => h
  | .str x, n, m, _, h => h
  | .tup ws, n, m, l, h => by
    have h' : 0 < n ∧ ws.length ≤ 100000 ∧ fits ws (n - 1) := h
    exact ⟨by omega, h'.2.1, fits_mono ws _ _ (by omega) h'.2.2⟩
  | .lst ws, n, m, l, h => by
    have h' : 0 < n ∧ ws.length ≤ 100000 ∧ fits ws (n - 1) := h
    exact ⟨by omega, h'.2.1, fits_mono ws _ _ (by omega) h'.2.2⟩
  | .dic _ _, n, m, _, h => h
  | .ref _, n, m, _, h => h
  | .ty _, n, m, _, h => h
theorem fits_mono : ∀ (ws : List D) (n m : Nat), n ≤ m → fits ws n → fits ws m
  | [], n, m, _, h => h
  | w :: ws, n, m, l, h => by
    have h' : fit w n ∧ fits ws n := h
    exact ⟨fit_mono w n m l h'.1, fits_mono ws n m l h'.2⟩
end
theorem fits_of {n : Nat} : ∀ {ws : List D}, (∀ w ∈ ws, fit w n) → fits ws n
  | [], _ => trivial
  | w :: ws, h => ⟨h w List.mem_cons_self, fits_of fun u hu => h u (List.mem_cons_of_mem _ hu)⟩
theorem fits_mem {n : Nat} : ∀ {ws : List D} {w : D}, fits ws n → w ∈ ws → fit w n
  | [], w, _, h => nomatch h
  | u :: ws, w, q, h => by
    have q' : fit u n ∧ fits ws n := q
    rcases List.mem_cons.mp h with rfl | h
    · exact q'.1
    · exact fits_mem q'.2 h
theorem pyOf_fit {s : Sg} {w : D} {n : Nat} (h : fit w n) : pyOf s w = some (pyD w) := by
  have := (fit_py w n h).1
  cases w <;> first | exact this | exact h.elim
theorem shaped_fit {w : D} {n : Nat} (h : fit w n) (hn : n ≤ 64) : SeqAt.shaped (pyD w) = true := by
  obtain ⟨_, c, d⟩ := fit_py w n h
  unfold SeqAt.shaped
  rw [c, Bool.true_and, decide_eq_true_eq]
  omega
/-- == of a thing with itself -/
theorem rEqv_refl {w : D} {n : Nat} {g : Bool → Bool} {s : Sg} {R : KD} (h : fit w n) (hn : n ≤ 64) (q : R (.bl (g true)) s) : rEqv g w w s R := by
  have e := SeqAt.eqv_refl (pyD w) (fit_py w n h).2.1
  have c := shaped_fit h hn
  have p := pyOf_fit (s := s) h
  unfold rEqv
  split
  · simpa using q
  · simpa using q
  · simpa using q
  · rw [p]
    exact ⟨c, c, by rw [e]; exact q⟩
/-! ### trees as data -/
theorem strOk_chr {c : Nat} (h : c < 1114112) : PyData.strOk ⟨#[c]⟩ = true := by simp [PyData.strOk, h]
theorem fit_tr : ∀ {t : Tr} {n : Nat}, t.all (· < 1114112) → t.depth ≤ n → fit t.d n
  | .nil, n, _, _ => trivial
  | .node l a r, n, h, hd => by
    simp only [Tr.depth] at hd
    refine ⟨by omega, by simp, fit_tr h.1 (by omega), strOk_chr h.2.1, fit_tr h.2.2 (by omega), trivial⟩
theorem Tr.all_mono {p q : Nat → Prop} (h : ∀ c, p c → q c) : ∀ {t : Tr}, t.all p → t.all q
  | .nil, _ => trivial
  | .node l a r, ⟨h1, h2, h3⟩ => ⟨all_mono h h1, h _ h2, all_mono h h3⟩
theorem Tr.all_mir {p : Nat → Prop} : ∀ {t : Tr}, t.all p → t.mir.all p
  | .nil, _ => trivial
  | .node l a r, ⟨h1, h2, h3⟩ => ⟨all_mir h3, h2, all_mir h1⟩
theorem Tr.depth_mir : ∀ t : Tr, t.mir.depth = t.depth
  | .nil => rfl
  | .node l a r => by simp only [Tr.mir, Tr.depth, depth_mir l, depth_mir r]; omega
def pyT : Tr → PyData
  | .nil => .none
  | .node l a r => .tuple [pyT l, .str ⟨#[a]⟩, pyT r]
theorem toPy_tr : ∀ t : Tr, toPy t.d = some (pyT t)
  | .nil => rfl
  | .node l a r => by
    show toPy (.tup [l.d, .str ⟨#[a]⟩, r.d]) = _
    simp only [toPy, toPys, toPy_tr l, toPy_tr r, Option.map_some, Option.bind_some, pyT]
theorem pyD_tr (t : Tr) : pyD t.d = pyT t := by rw [pyD, toPy_tr]; rfl
theorem pyT_show : ∀ t : Tr, (pyT t).showable = true
  | .nil => rfl
  | .node l a r => by
    show ((pyT l).showable && (true && ((pyT r).showable && true))) = true
    rw [pyT_show l, pyT_show r]; rfl
theorem pyT_short : ∀ t : Tr, t.all (· < 1114112) → (pyT t).leavesShort 13 = true
  | .nil, _ => rfl
  | .node l a r, h => by
    show ((pyT l).leavesShort 13 && (PyData.leavesShort 13 (.str ⟨#[a]⟩) && ((pyT r).leavesShort 13 && true))) = true
    rw [pyT_short l h.1, pyT_short r h.2.2]
    have : a < 16 ^ 8 := by have := h.2.1; omega
    simp [PyData.leavesShort, this]
theorem pyT_weight : ∀ t : Tr, (pyT t).weight = 4 * t.size
  | .nil => rfl
  | .node l a r => by
    show (pyT l).weight + 1 + (1 + 1 + ((pyT r).weight + 1 + 0)) = _
    rw [pyT_weight l, pyT_weight r]
    simp only [Tr.size]; omega
theorem repr_tr {t : Tr} {s : Sg} {R : KD} (h0 : 0 < t.size) (h1 : t.size ≤ 10000) (hd : t.depth ≤ 60) (h : t.all (· < 1114112)) (q : R (.str (pyT t).shown) s) : rRepr [t.d] s R := by
  have f := fit_tr (n := 60) h hd
  have p := pyOf_fit (s := s) f
  have d := (fit_py _ _ f).2.2
  have l := PyData.shown_le 13 (by decide) (pyT t) (pyT_short t h)
  rw [pyT_weight] at l
  rw [pyD_tr] at p d
  unfold rRepr
  dsimp only
  rw [p]
  refine ⟨?_, pyT_show t, d, by omega, q⟩
  cases t with
  | nil => cases h0
  | node l a r => rfl
theorem toPys_trs : ∀ h : List Tr, toPys (h.map Tr.d) = some (h.map pyT)
  | [] => rfl
  | t :: h => by simp only [List.map_cons, toPys, toPy_tr, toPys_trs h, Option.bind_some, Option.map_some]
theorem eqv_nilr (xs : List PyData) : PyData.eqv (.list xs) (.list []) = xs.isEmpty := by
  cases xs <;> simp [PyData.eqv, PyData.eqvAll]
theorem shaped_of {w : D} {d : PyData} {n : Nat} (h : fit w n) (hn : n ≤ 64) (e : toPy w = some d) : SeqAt.shaped d = true := by
  have := shaped_fit h hn
  rw [pyD, e] at this
  exact this
theorem shaped_nil : SeqAt.shaped (.list []) = true := rfl
/-! ### loops by what holds at each turn -/
theorem for_inv {w : D} {ws : List D} {g : DG} {tb : DS} {DD : DEnds} (I : List D → Ev → Sg → Prop) (h0 : ∀ env s, I [] env s → asI s w = some ws ∧ DD.nx env s)
    (h1 : ∀ x r env s (N : Ev → Sg → Prop), I (x :: r) env s → (∀ env' s', I r env' s' → N env' s') → asI s w = some ws ∧ g x env s fun env' s' => tb { DD with nx := N, ct := N, bk := DD.nx } env' s') :
    ∀ {l : List D} {env : Ev} {s : Sg}, I l env s → dForL w ws g tb DD l env s
  | [], env, s, h => h0 env s h
  | x :: r, env, s, h => h1 x r env s (dForL w ws g tb DD r) h fun env' s' h' => for_inv I h0 h1 h'
theorem while_inv {c : DT} {tb : DS} {DD : DEnds} (I : Nat → Ev → Sg → Prop)
    (h1 : ∀ n env s (N : Ev → Sg → Prop), I n env s → (∀ m env' s', n = m + 1 → I m env' s' → N env' s') → c env s fun b s1 => if b = true then tb { DD with nx := N, ct := N, bk := DD.nx } env s1 else DD.nx env s1) :
    ∀ {n : Nat} {env : Ev} {s : Sg}, I n env s → dWhileN c tb DD (n + 1) env s
  | 0, env, s, h => h1 0 env s _ h fun m _ _ e => nomatch e
  | n + 1, env, s, h => h1 (n + 1) env s (dWhileN c tb DD (n + 1)) h fun m env' s' e h' => by
    cases e
    exact while_inv I h1 h'
theorem while_of {c : DT} {tb : DS} {DD : DEnds} {env : Ev} {s : Sg} (I : Nat → Ev → Sg → Prop) (n : Nat) (h : I n env s)
    (h1 : ∀ n env s (N : Ev → Sg → Prop), I n env s → (∀ m env' s', n = m + 1 → I m env' s' → N env' s') → c env s fun b s1 => if b = true then tb { DD with nx := N, ct := N, bk := DD.nx } env s1 else DD.nx env s1) : dWhile c tb DD env s :=
  ⟨n + 1, while_inv I h1 h⟩
end Dz
namespace Dz
open PySem PySem.Spec PyProof.Rows L2
theorem dfG_of {P : Program} {w : World} {K : PySem.W.Frag} {mg : Str → Option Value} {base : Heap} {k : Nat} {f : Addr} {fd : FuncData} {x qual : Str} {params : Arguments} {body : List Stmt} {scope : Scope} {kws : List (Str × V)} {N ps : List Str} {sp : SpD} {tb : DS}
    (F : FunD K x qual params body scope [] kws f fd) (S : FnScope N ps scope)
    (body_ok : ∀ (cdv : Value) (A : Around) (outer : List Env) (s : Shared) (H : Hp) (E : XK), Room k (A.deeper (envOfC qual scope s.heap.objs.size f cdv)) → (A.deeper (envOfC qual scope s.heap.objs.size f cdv)).guards = some [] → PDSs (cxOf CX0 P w K mg base N qual scope f cdv A outer s H E).nox body tb)
    (sem : ∀ ws s R, sp ws s R X0 → ws.length = ps.length ∧ ∀ K H, MRep K H s → ∃ s1, MRep K H s1 ∧ Stp H s H s1 ∧ tb { nx := fun _ s' => Lw R .non s', rt := Lw R } (startD N ws) s1)
    (noX : ∀ ws s R E, sp ws s R E → sp ws s R X0) : FnG P w K mg base CX0 (k + 1) f fd ps (liftSp K sp) := by
  refine fnG_of F S (fun vs H Q E ⟨ws, s, R, E', h1, h2, h3, h4, h5⟩ => by rw [← h1.len]; exact (sem ws s R (noX _ _ _ _ h3)).1) fun cdv A outer s0 H vs Q E hr hg ⟨ws, s, R, E', h1, h2, h3, h4, h5⟩ => ?_
  obtain ⟨s1, m1, e1, q⟩ := (sem ws s R (noX _ _ _ _ h3)).2 K H h2
  have h6 := (h4.ext e1).lw
  exact ⟨_, (body_ok cdv A outer s0 H E hr hg).nox, startD N ws, s1, _, renv_start h1, m1, q, ⟨fun env s' σ H' q e m r => h6 .non s' _ H' q e m rfl, h6, fun _ _ _ _ q => q.elim, fun _ _ _ _ q => q.elim⟩⟩
end Dz
namespace Dz
open PySem PySem.Spec PyProof.Rows L2
section
variable {X : Cx}
/-! ### f-strings -/
def dFmt (t : DE) : DE := fun env s R => t env s fun w s1 => match w with
  | .str y => y.length ≤ 1000000 ∧ R (.str y) s1
  | .int i => i.natAbs.log2 < 1920 ∧ R (.str (toString i)) s1
  | _ => False
theorem pd_fmt {e : Expr} {t : DE} {pos : Pos} (h : PD X e t) : PD X (.FormattedValue e (-1) none pos) (dFmt t) :=
  pe_imp (pe_fmt h) fun σ H Q ⟨env, s, R, h1, h2, h3, h4⟩ => ⟨env, s, _, h1, h2, h3, fun w s1 v H1 q e1 m1 r1 => by
    cases w with
    | str y => exact .inl ⟨y, r1, Nat.le_trans q.1 mil, h4 _ _ _ _ q.2 e1 m1 rfl⟩
    | int i => exact .inr ⟨i, r1, q.1, h4 _ _ _ _ q.2 e1 m1 rfl⟩
    | _ => exact q.elim⟩
def dJs : List DE → Str → Ev → Sg → (Str → Sg → Prop) → Prop
  | [], acc, _, s, R => R acc s
  | t :: ts, acc, env, s, R => t env s fun w s1 => match w with
    | .str y => acc.length + y.length ≤ 1000000 ∧ dJs ts (acc ++ y) env s1 R
    | _ => False
theorem str_app_len (a b : Str) : (a ++ b).length = a.length + b.length := by
  show (a.cps ++ b.cps).size = a.cps.size + b.cps.size
  exact Array.size_append
theorem tJs_of {K : PySem.W.Frag} {σ : L2.St} {env : Ev} {H0 : Hp} {s0 : Sg} {R : Str → Sg → Prop} {Q : Str → Hp → Prop} (hp : ∀ z s H', R z s → Stp H0 s0 H' s → MRep K H' s → Q z H') :
    ∀ (ts : List DE) (acc : Str) (H : Hp) (s : Sg), REnv K H env σ → MRep K H s → Stp H0 s0 H s → dJs ts acc env s R → tJs (ts.map (liftE K)) acc σ H Q
  | [], acc, H, s, r, m, e, h => hp acc s H h e m
  | t :: ts, acc, H, s, r, m, e, h => ⟨env, s, _, r, m, h, fun w s1 v H1 q e1 m1 r1 => by
    cases w with
    | str y => exact ⟨y, r1, by rw [str_app_len]; exact Nat.le_trans q.1 mil, tJs_of hp ts (acc ++ y) H1 s1 (r.ext e1.ext) m1 (e.trans e1) q.2⟩
    | _ => exact q.elim⟩
abbrev PDJ (X : Cx) (es : List Expr) (ts : List DE) : Prop := PJ X es (ts.map (liftE X.K))
theorem pdj_nil : PDJ X [] [] := .nil
theorem pdj_cons {e : Expr} {t : DE} {es : List Expr} {ts : List DE} (h : PD X e t) (r : PDJ X es ts) : PDJ X (e :: es) (t :: ts) := .cons h r
def dFJ (ts : List DE) : DE := fun env s R => dJs ts Str.empty env s fun z s1 => R (.str z) s1
theorem pd_joined {v1 v2 : Expr} {rest : List Expr} {ts : List DE} {pos : Pos} (h : PDJ X (v1 :: v2 :: rest) ts) : PD X (.JoinedStr (v1 :: v2 :: rest) pos) (dFJ ts) :=
  pe_imp (pe_joined h) fun σ H Q ⟨env, s, R, h1, h2, h3, h4⟩ => tJs_of (R := fun z s1 => R (.str z) s1) (fun z s' H' q e m => h4 _ _ _ _ q e m rfl) ts Str.empty H s h1 h2 (.refl _ _) h3
end
/-! ### texts as lists of signs -/
def mkS (l : List Nat) : Str := ⟨l.toArray⟩
theorem mkS_app (a b : List Nat) : mkS a ++ mkS b = mkS (a ++ b) := by
  show Str.append (mkS a) (mkS b) = _
  unfold Str.append mkS
  simp
theorem mkS_len (a : List Nat) : (mkS a).length = a.length := by
  show (a.toArray).size = _
  simp
theorem mkS_inj {a b : List Nat} (h : mkS a = mkS b) : a = b := by
  unfold mkS at h
  injection h with h
  have := congrArg Array.toList h
  simpa using this
theorem mkS_iff {a b : List Nat} : mkS a = mkS b ↔ a = b := ⟨mkS_inj, fun h => by rw [h]⟩
theorem mkS_cps (a : List Nat) : (mkS a).cps.toList = a := rfl
theorem mkS_of (x : Str) : x = mkS x.cps.toList := by cases x; rfl
theorem chr_mk (c : Nat) : chr c = .str (mkS [c]) := rfl
theorem empty_mk : Str.empty = mkS [] := rfl
end Dz
namespace Dz
open PySem PySem.Spec PyProof.Rows L2
/-! ### == without unfolding; trees -/
section
variable {g : Bool → Bool} {s : Sg} {R : KD}
theorem rEqv_int {i j : Int} : rEqv g (.int i) (.int j) s R = R (.bl (g (decide (i = j)))) s := rfl
theorem rEqv_str {i j : Str} : rEqv g (.str i) (.str j) s R = R (.bl (g (decide (i = j)))) s := rfl
theorem rEqv_bl {i j : Bool} : rEqv g (.bl i) (.bl j) s R = R (.bl (g (decide (i = j)))) s := rfl
theorem eqv_tr : ∀ t u : Tr, PyData.eqv (pyT t) (pyT u) = true ↔ t = u
  | .nil, .nil => by simp [pyT, PyData.eqv]
  | .nil, .node _ _ _ => by simp [pyT, PyData.eqv]
  | .node _ _ _, .nil => by simp [pyT, PyData.eqv]
  | .node l a r, .node l' a' r' => by
    simp only [pyT, PyData.eqv, PyData.eqvAll, Bool.and_eq_true, eqv_tr l l', eqv_tr r r', Bool.and_true, Tr.node.injEq]
    simp
theorem rEqv_py {w u : D} {n m : Nat} (hw : fit w n) (hu : fit u m) (hn : n ≤ 64) (hm : m ≤ 64) (hne : ∀ i, w ≠ .int i) (hns : ∀ i, w ≠ .str i) (hnb : ∀ i, w ≠ .bl i) (q : R (.bl (g (PyData.eqv (pyD w) (pyD u)))) s) : rEqv g w u s R := by
  unfold rEqv
  split
  · exact absurd rfl (hne _)
  · exact absurd rfl (hns _)
  · exact absurd rfl (hnb _)
  · rw [pyOf_fit hw, pyOf_fit hu]
    exact ⟨shaped_fit hw hn, shaped_fit hu hm, q⟩
theorem rEqv_tr {t u : Tr} (ht : t.all (· < 1114112)) (hu : u.all (· < 1114112)) (hd : t.depth ≤ 64) (hd' : u.depth ≤ 64) : rEqv g t.d u.d s R ↔ R (.bl (g (decide (t = u)))) s := by
  have e : PyData.eqv (pyT t) (pyT u) = decide (t = u) := by
    rw [Bool.eq_iff_iff, eqv_tr, decide_eq_true_eq]
  have f1 := fit_tr ht hd
  have f2 := fit_tr hu hd'
  have p1 := pyOf_fit (s := s) f1
  have p2 := pyOf_fit (s := s) f2
  have c1 := shaped_fit f1 (Nat.le_refl _)
  have c2 := shaped_fit f2 (Nat.le_refl _)
  have key : rEqv g t.d u.d s R = (match pyOf s t.d, pyOf s u.d with | some d, some e => SeqAt.shaped d = true ∧ SeqAt.shaped e = true ∧ R (.bl (g (PyData.eqv d e))) s | _, _ => False) := by
    cases t <;> rfl
  rw [key, p1, p2]
  dsimp only
  rw [c1, c2, pyD_tr, pyD_tr, e]
  simp
end
theorem weight_trs : ∀ ts : List Tr, PyData.weightAll (ts.map pyT) = (ts.map fun t => 4 * t.size + 1).sum
  | [] => rfl
  | t :: ts => by
    show (pyT t).weight + 1 + PyData.weightAll (ts.map pyT) = _
    rw [pyT_weight, weight_trs ts]; rfl
theorem show_trs : ∀ ts : List Tr, PyData.showableAll (ts.map pyT) = true
  | [] => rfl
  | t :: ts => by
    show ((pyT t).showable && PyData.showableAll (ts.map pyT)) = true
    rw [pyT_show, show_trs ts]; rfl
theorem short_trs : ∀ ts : List Tr, (∀ t ∈ ts, t.all (· < 1114112)) → PyData.leavesShortAll 13 (ts.map pyT) = true
  | [], _ => rfl
  | t :: ts, h => by
    show ((pyT t).leavesShort 13 && PyData.leavesShortAll 13 (ts.map pyT)) = true
    rw [pyT_short t (h t List.mem_cons_self), short_trs ts fun u hu => h u (List.mem_cons_of_mem _ hu)]; rfl
theorem sum_le_mul : ∀ {ns : List Nat} {b : Nat}, (∀ n ∈ ns, n ≤ b) → ns.sum ≤ ns.length * b
  | [], b, _ => by simp
  | n :: ns, b, h => by
    have h1 := h n List.mem_cons_self
    have h2 := sum_le_mul (ns := ns) (b := b) fun m hm => h m (List.mem_cons_of_mem _ hm)
    rw [List.sum_cons, List.length_cons, Nat.add_mul]
    omega
theorem repr_trs {ts : List Tr} {s : Sg} {R : KD} (h : ∀ t ∈ ts, t.size ≤ 1000 ∧ t.depth ≤ 59 ∧ t.all (· < 1114112)) (hl : ts.length ≤ 10) (q : R (.str (PyData.list (ts.map pyT)).shown) s) : rRepr [.lst (ts.map Tr.d)] s R := by
  have f : fit (.lst (ts.map Tr.d)) 60 := ⟨by decide, by rw [List.length_map]; omega, fits_of fun w hw => by
    obtain ⟨t, ht, rfl⟩ := List.mem_map.mp hw
    exact fit_tr (h t ht).2.2 (h t ht).2.1⟩
  have e : toPy (.lst (ts.map Tr.d)) = some (.list (ts.map pyT)) := by rw [toPy, toPys_trs]; rfl
  have d := (fit_py _ _ f).2.2
  rw [pyD, e] at d
  have l := PyData.shown_le 13 (by decide) (.list (ts.map pyT)) (short_trs ts fun t ht => (h t ht).2.2)
  have w : PyData.weight (.list (ts.map pyT)) ≤ 40010 := by
    show PyData.weightAll _ ≤ _
    rw [weight_trs]
    have := sum_le_mul (ns := ts.map fun t => 4 * t.size + 1) (b := 4001) fun n hn => by
      obtain ⟨t, ht, rfl⟩ := List.mem_map.mp hn
      have := (h t ht).1
      omega
    rw [List.length_map] at this
    omega
  unfold rRepr
  dsimp only [pyOf]
  rw [e]
  exact ⟨rfl, show_trs ts, d, by omega, q⟩
end Dz
namespace Pr
open PySem PySem.Spec PyProof.Rows L2 Dz
def top (i : Nat) : Stmt := PySem.Challenge.pw_treewalks_k71_texts_of_trees.main.body.getD i (.Pass ⟨0, 0, 0, 0⟩)
structure Bi (mg : Str → Option Value) : Prop where
  abs : mg "abs" = none
  bool : mg "bool" = none
  int : mg "int" = none
  isinstance : mg "isinstance" = none
  len : mg "len" = none
  list : mg "list" = none
  range : mg "range" = none
  repr : mg "repr" = none
  sorted : mg "sorted" = none
  str : mg "str" = none
  tuple : mg "tuple" = none
  c_CLOSE : ∃ t, mg "CLOSE" = some (.str ")" t)
  c_COMMA : ∃ t, mg "COMMA" = some (.str "," t)
  c_NOTHING : ∃ t, mg "NOTHING" = some (.str "-" t)
  c_OPEN : ∃ t, mg "OPEN" = some (.str "(" t)
abbrev N_mirrored : List Str := ["tree", "left", "label", "right"]
theorem sc_mirrored : FnScope N_mirrored ["tree"] (defScope (top 1)) := ⟨rfl, rfl, rfl, by decide +kernel, rfl, by decide +kernel, by decide +kernel⟩
def t_mirrored (sp_mirrored : SpD) : DS := (dSeq (dIf (dB (dOp rIs (dVar 0) (dC .non))) (dRet (dC .non)) dNx)
    (dSeq (dAsg (dVar 0) (dgT 3 (dgCons (dgN 1) (dgCons (dgN 2) (dgCons (dgN 3) dgNil)))))
    (dRet (dTup (dCons (dCall sp_mirrored (dCons (dVar 3) dNil)) (dCons (dVar 2) (dCons (dCall sp_mirrored (dCons (dVar 1) dNil)) dNil)))))))
theorem b_mirrored {P : Program} {w : World} {K : PySem.W.Frag} {mg : Str → Option Value} {base : Heap} {k : Nat} {f : Addr} {cdv : Value} {A : Around} {outer : List Env} {s : Shared} {H : Hp} {E : XK} (B : Bi mg) (hr : Room k (A.deeper (envOfC "mirrored" (defScope (top 1)) s.heap.objs.size f cdv))) (hgd : (A.deeper (envOfC "mirrored" (defScope (top 1)) s.heap.objs.size f cdv)).guards = some []) {k_mirrored : Nat} {sp_mirrored : SpD} (D_mirrored : Df P w K mg base CX0 k_mirrored "mirrored" ["tree"] sp_mirrored) (h_mirrored : k_mirrored ≤ k) : PDSs (cxOf CX0 P w K mg base N_mirrored "mirrored" (defScope (top 1)) f cdv A outer s H E).nox (defBody (top 1)) (t_mirrored sp_mirrored) :=
  (pds_cons (pd_if (pdt_cmp od_is (pd_var 0) pd_non (nomark _)) (pds_one (pd_ret pd_non)) pds_nil)
    (pds_cons (pd_asg (pd_var 0) (pdg_tup rfl (pdgs_cons (pdg_name (i := 1) sc_mirrored.nd rfl (Or.inl rfl)) (pdgs_cons (pdg_name (i := 2) sc_mirrored.nd rfl (Or.inl rfl)) (pdgs_cons (pdg_name (i := 3) sc_mirrored.nd rfl (Or.inl rfl)) pdgs_nil)))))
    (pds_one (pd_ret (pd_tup (pda_cons (pd_call D_mirrored (hr.mono h_mirrored) hgd rfl (pda_cons (pd_var 3) pda_nil)) (pda_cons (pd_var 2) (pda_cons (pd_call D_mirrored (hr.mono h_mirrored) hgd rfl (pda_cons (pd_var 1) pda_nil)) pda_nil))))))))
abbrev N_child_text : List Str := ["tree"]
theorem sc_child_text : FnScope N_child_text ["tree"] (defScope (top 7)) := ⟨rfl, rfl, rfl, by decide +kernel, rfl, by decide +kernel, by decide +kernel⟩
def t_child_text (sp_tree_text : SpD) : DS := (dRet (dIfE (dB (dOp rIs (dVar 0) (dC .non))) (dC (.str "-")) (dCall sp_tree_text (dCons (dVar 0) dNil))))
theorem b_child_text {P : Program} {w : World} {K : PySem.W.Frag} {mg : Str → Option Value} {base : Heap} {k : Nat} {f : Addr} {cdv : Value} {A : Around} {outer : List Env} {s : Shared} {H : Hp} {E : XK} (B : Bi mg) (hr : Room k (A.deeper (envOfC "child_text" (defScope (top 7)) s.heap.objs.size f cdv))) (hgd : (A.deeper (envOfC "child_text" (defScope (top 7)) s.heap.objs.size f cdv)).guards = some []) {k_tree_text : Nat} {sp_tree_text : SpD} (D_tree_text : Df P w K mg base CX0 k_tree_text "tree_text" ["tree"] sp_tree_text) (h_tree_text : k_tree_text ≤ k) : PDSs (cxOf CX0 P w K mg base N_child_text "child_text" (defScope (top 7)) f cdv A outer s H E).nox (defBody (top 7)) (t_child_text sp_tree_text) :=
  (pds_one (pd_ret (pd_ifExp (pdt_cmp od_is (pd_var 0) pd_non (nomark _)) (pd_gS rfl B.c_NOTHING) (pd_call D_tree_text (hr.mono h_tree_text) hgd rfl (pda_cons (pd_var 0) pda_nil)))))
abbrev N_tree_text : List Str := ["tree", "left", "label", "right"]
theorem sc_tree_text : FnScope N_tree_text ["tree"] (defScope (top 8)) := ⟨rfl, rfl, rfl, by decide +kernel, rfl, by decide +kernel, by decide +kernel⟩
def t_tree_text (sp_child_text : SpD) : DS := (dSeq (dAsg (dVar 0) (dgT 3 (dgCons (dgN 1) (dgCons (dgN 2) (dgCons (dgN 3) dgNil)))))
    (dSeq (dIf (dAnd (dB (dOp rIs (dVar 1) (dC .non))) (dB (dOp rIs (dVar 3) (dC .non)))) (dRet (dVar 2)) dNx)
    (dRet (dFJ [(dFmt (dVar 2)), (dFmt (dC (.str "("))), (dFmt (dCall sp_child_text (dCons (dVar 1) dNil))), (dFmt (dC (.str ","))), (dFmt (dCall sp_child_text (dCons (dVar 3) dNil))), (dFmt (dC (.str ")")))]))))
theorem b_tree_text {P : Program} {w : World} {K : PySem.W.Frag} {mg : Str → Option Value} {base : Heap} {k : Nat} {f : Addr} {cdv : Value} {A : Around} {outer : List Env} {s : Shared} {H : Hp} {E : XK} (B : Bi mg) (hr : Room k (A.deeper (envOfC "tree_text" (defScope (top 8)) s.heap.objs.size f cdv))) (hgd : (A.deeper (envOfC "tree_text" (defScope (top 8)) s.heap.objs.size f cdv)).guards = some []) {k_child_text : Nat} {sp_child_text : SpD} (D_child_text : Df P w K mg base CX0 k_child_text "child_text" ["tree"] sp_child_text) (h_child_text : k_child_text ≤ k) : PDSs (cxOf CX0 P w K mg base N_tree_text "tree_text" (defScope (top 8)) f cdv A outer s H E).nox (defBody (top 8)) (t_tree_text sp_child_text) :=
  (pds_cons (pd_asg (pd_var 0) (pdg_tup rfl (pdgs_cons (pdg_name (i := 1) sc_tree_text.nd rfl (Or.inl rfl)) (pdgs_cons (pdg_name (i := 2) sc_tree_text.nd rfl (Or.inl rfl)) (pdgs_cons (pdg_name (i := 3) sc_tree_text.nd rfl (Or.inl rfl)) pdgs_nil)))))
    (pds_cons (pd_if (pdw_t (pdw_and (pdt_cmp od_is (pd_var 1) pd_non (nomark _)) (pdw_and1 (pdt_cmp od_is (pd_var 3) pd_non (nomark _))))) (pds_one (pd_ret (pd_var 2))) pds_nil)
    (pds_one (pd_ret (pd_joined (pdj_cons (pd_fmt (pd_var 2)) (pdj_cons (pd_fmt (pd_gS rfl B.c_OPEN)) (pdj_cons (pd_fmt (pd_call D_child_text (hr.mono h_child_text) hgd rfl (pda_cons (pd_var 1) pda_nil))) (pdj_cons (pd_fmt (pd_gS rfl B.c_COMMA)) (pdj_cons (pd_fmt (pd_call D_child_text (hr.mono h_child_text) hgd rfl (pda_cons (pd_var 3) pda_nil))) (pdj_cons (pd_fmt (pd_gS rfl B.c_CLOSE)) pdj_nil)))))))))))
abbrev N_law_deck : List Str := ["_law_script", "_law_cells", "_law_cell"]
theorem sc_law_deck : FnScope N_law_deck ["_law_script"] (defScope (top 10)) := ⟨rfl, rfl, rfl, by decide +kernel, rfl, by decide +kernel, by decide +kernel⟩
def t_law_deck : DS := (dSeq (dSet 1 (dM (dCat (dF (dLc (dIt (dSl (dVar 0) dNoPart (dPart (dC (.int 61))))) (dgN 2) dYes (dCB rAbs (dCons (dVar 2) dNil)) [2])) (dOp rMulU (dM (dSz (dCons (dC (.int 0)) dNil))) (dCB rToInt (dCons (dOp rEq (dCB rLenU (dCons (dVar 0) dNil)) (dC (.int 0))) dNil))))))
    (dRet (dM (dSz (dCons (dVar 1) (dCons (dM (dLc (dIt (dVar 1)) (dgN 2) dYes (dOp rMulU (dVar 2) (dCB rToInt (dCons (dOp rGe (dVar 2) (dOp rPow (dC (.int 10)) (dC (.int 18)))) dNil))) [2])) (dCons (dC (.int 0)) dNil)))))))
theorem b_law_deck {P : Program} {w : World} {K : PySem.W.Frag} {mg : Str → Option Value} {base : Heap} {k : Nat} {f : Addr} {cdv : Value} {A : Around} {outer : List Env} {s : Shared} {H : Hp} {E : XK} (B : Bi mg) (hr : Room k (A.deeper (envOfC "_law_deck" (defScope (top 10)) s.heap.objs.size f cdv))) (hgd : (A.deeper (envOfC "_law_deck" (defScope (top 10)) s.heap.objs.size f cdv)).guards = some []) : PDSs (cxOf CX0 P w K mg base N_law_deck "_law_deck" (defScope (top 10)) f cdv A outer s H E).nox (defBody (top 10)) (t_law_deck) :=
  (pds_cons (pd_set (i := 1) sc_law_deck.nd rfl (Or.inl rfl) (pd_M (nl_cat (pd_F (nl_lc (own := [("_law_cell", 2)]) (gi_name 2) (wi_name (by decide)) rfl sc_law_deck.nd (pdi_it (pd_sl (pd_var 0) pdo_none (pdo_some pd_int))) (blkOk_by (own := [("_law_cell", 2)]) (N := N_law_deck) (sc := defScope (top 10)) (by decide +kernel)) (fun _ _ _ _ _ => (pg_name (i := 2) sc_law_deck.nd rfl (Or.inl rfl))) (fun _ _ _ _ _ => pdts_nil) (fun _ _ _ _ _ => (pd_callB cd_abs rfl B.abs bb_abs (pda_cons (pd_var 2) pda_nil))))) (pd_mul (pd_M (nl_lst (pda_cons pd_int pda_nil))) (pd_callTy cd_int rfl B.int bb_int (pda_cons (pd_cmp (od_eq hr.units) (pd_callB cd_len rfl B.len bb_len (pda_cons (pd_var 0) pda_nil)) pd_int (nomark _)) pda_nil))))))
    (pds_one (pd_ret (pd_M (nl_lst (pda_cons (pd_var 1) (pda_cons (pd_M (nl_lc (own := [("_law_cell", 2)]) (gi_name 2) (wi_name (by decide)) rfl sc_law_deck.nd (pdi_it (pd_var 1)) (blkOk_by (own := [("_law_cell", 2)]) (N := N_law_deck) (sc := defScope (top 10)) (by decide +kernel)) (fun _ _ _ _ _ => (pg_name (i := 2) sc_law_deck.nd rfl (Or.inl rfl))) (fun _ _ _ _ _ => pdts_nil) (fun _ _ _ _ _ => (pd_mul (pd_var 2) (pd_callTy cd_int rfl B.int bb_int (pda_cons (pd_cmp od_ge (pd_var 2) (pd_op od_pow pd_int pd_int) (nomark _)) pda_nil)))))) (pda_cons pd_int pda_nil))))))))
abbrev N_law_next : List Str := ["_law_deck_here", "_law_many", "_law_cells", "_law_rests", "_law_count", "_law_index", "_law_digit", "_law_mixed"]
theorem sc_law_next : FnScope N_law_next ["_law_deck_here", "_law_many"] (defScope (top 11)) := ⟨rfl, rfl, rfl, by decide +kernel, rfl, by decide +kernel, by decide +kernel⟩
def t_law_next : DS := (dSeq (dAsg (dVar 0) (dgT 3 (dgCons (dgN 2) (dgCons (dgN 3) (dgCons (dgN 4) dgNil)))))
    (dSeq (dSetIx (dOp rAddU (dVar 4) (dC (.int 1))) (dVar 0) (dC (.int 2)))
    (dSeq (dSet 5 (dOp rMod (dVar 4) (dCB rLenU (dCons (dVar 2) dNil))))
    (dSeq (dIf (dB (dOp rGt (dOp rIxU (dVar 3) (dVar 5)) (dC (.int 0)))) (dSeq (dSet 6 (dOp rMod (dOp rIxU (dVar 3) (dVar 5)) (dVar 1)))
    (dSeq (dSetIx (dOp rDiv (dOp rIxU (dVar 3) (dVar 5)) (dVar 1)) (dVar 3) (dVar 5))
    (dRet (dVar 6)))) dNx)
    (dSeq (dSet 7 (dOp rMulU (dOp rAddU (dOp rAddU (dOp rIxU (dVar 2) (dVar 5)) (dOp rMulU (dC (.int 1747)) (dVar 4))) (dC (.int 53))) (dOp rAddU (dC (.int 60013)) (dOp rMulU (dC (.int 2)) (dVar 4)))))
    (dSeq (dSet 7 (dOp rMod (dOp rAddU (dVar 7) (dOp rMulU (dC (.int 70001)) (dVar 4))) (dC (.int 2305843009213693951))))
    (dSeq (dSet 7 (dOp rMod (dOp rAddU (dOp rMulU (dVar 7) (dVar 7)) (dC (.int 50021))) (dC (.int 2305843009213693921))))
    (dSeq (dSet 7 (dOp rMod (dOp rMulU (dVar 7) (dVar 7)) (dC (.int 2305843009213693951))))
    (dRet (dOp rMod (dOp rDiv (dVar 7) (dC (.int 256))) (dVar 1)))))))))))
theorem b_law_next {P : Program} {w : World} {K : PySem.W.Frag} {mg : Str → Option Value} {base : Heap} {k : Nat} {f : Addr} {cdv : Value} {A : Around} {outer : List Env} {s : Shared} {H : Hp} {E : XK} (B : Bi mg) (hr : Room k (A.deeper (envOfC "_law_next" (defScope (top 11)) s.heap.objs.size f cdv))) (hgd : (A.deeper (envOfC "_law_next" (defScope (top 11)) s.heap.objs.size f cdv)).guards = some []) : PDSs (cxOf CX0 P w K mg base N_law_next "_law_next" (defScope (top 11)) f cdv A outer s H E).nox (defBody (top 11)) (t_law_next) :=
  (pds_cons (pd_asg (pd_var 0) (pdg_tup rfl (pdgs_cons (pdg_name (i := 2) sc_law_next.nd rfl (Or.inl rfl)) (pdgs_cons (pdg_name (i := 3) sc_law_next.nd rfl (Or.inl rfl)) (pdgs_cons (pdg_name (i := 4) sc_law_next.nd rfl (Or.inl rfl)) pdgs_nil)))))
    (pds_cons (pd_setIx (pd_add (pd_var 4) pd_int) (pd_var 0) pd_int)
    (pds_cons (pd_set (i := 5) sc_law_next.nd rfl (Or.inl rfl) (pd_op od_mod (pd_var 4) (pd_callB cd_len rfl B.len bb_len (pda_cons (pd_var 2) pda_nil))))
    (pds_cons (pd_if (pdt_cmp od_gt (pd_ix (pd_var 3) (pd_var 5) (fun _ _ => rfl)) pd_int (nomark _)) (pds_cons (pd_set (i := 6) sc_law_next.nd rfl (Or.inl rfl) (pd_op od_mod (pd_ix (pd_var 3) (pd_var 5) (fun _ _ => rfl)) (pd_var 1)))
    (pds_cons (pd_setIx (pd_op od_fdiv (pd_ix (pd_var 3) (pd_var 5) (fun _ _ => rfl)) (pd_var 1)) (pd_var 3) (pd_var 5))
    (pds_one (pd_ret (pd_var 6))))) pds_nil)
    (pds_cons (pd_set (i := 7) sc_law_next.nd rfl (Or.inl rfl) (pd_mul (pd_add (pd_add (pd_ix (pd_var 2) (pd_var 5) (fun _ _ => rfl)) (pd_mul pd_int (pd_var 4))) pd_int) (pd_add pd_int (pd_mul pd_int (pd_var 4)))))
    (pds_cons (pd_set (i := 7) sc_law_next.nd rfl (Or.inl rfl) (pd_op od_mod (pd_add (pd_var 7) (pd_mul pd_int (pd_var 4))) pd_int))
    (pds_cons (pd_set (i := 7) sc_law_next.nd rfl (Or.inl rfl) (pd_op od_mod (pd_add (pd_mul (pd_var 7) (pd_var 7)) pd_int) pd_int))
    (pds_cons (pd_set (i := 7) sc_law_next.nd rfl (Or.inl rfl) (pd_op od_mod (pd_mul (pd_var 7) (pd_var 7)) pd_int))
    (pds_one (pd_ret (pd_op od_mod (pd_op od_fdiv (pd_var 7) pd_int) (pd_var 1))))))))))))
abbrev N_law_one : List Str := ["_law_deck_here", "_law_items"]
theorem sc_law_one : FnScope N_law_one ["_law_deck_here", "_law_items"] (defScope (top 12)) := ⟨rfl, rfl, rfl, by decide +kernel, rfl, by decide +kernel, by decide +kernel⟩
def t_law_one (sp_law_next : SpD) : DS := (dRet (dOp rIxU (dVar 1) (dCall sp_law_next (dCons (dVar 0) (dCons (dCB rLenU (dCons (dVar 1) dNil)) dNil)))))
theorem b_law_one {P : Program} {w : World} {K : PySem.W.Frag} {mg : Str → Option Value} {base : Heap} {k : Nat} {f : Addr} {cdv : Value} {A : Around} {outer : List Env} {s : Shared} {H : Hp} {E : XK} (B : Bi mg) (hr : Room k (A.deeper (envOfC "_law_one" (defScope (top 12)) s.heap.objs.size f cdv))) (hgd : (A.deeper (envOfC "_law_one" (defScope (top 12)) s.heap.objs.size f cdv)).guards = some []) {k_law_next : Nat} {sp_law_next : SpD} (D_law_next : Df P w K mg base CX0 k_law_next "_law_next" ["_law_deck_here", "_law_many"] sp_law_next) (h_law_next : k_law_next ≤ k) : PDSs (cxOf CX0 P w K mg base N_law_one "_law_one" (defScope (top 12)) f cdv A outer s H E).nox (defBody (top 12)) (t_law_one sp_law_next) :=
  (pds_one (pd_ret (pd_ix (pd_var 1) (pd_call D_law_next (hr.mono h_law_next) hgd rfl (pda_cons (pd_var 0) (pda_cons (pd_callB cd_len rfl B.len bb_len (pda_cons (pd_var 1) pda_nil)) pda_nil))) (fun _ _ => rfl))))
abbrev N_law_same : List Str := ["_law_found", "_law_due", "_law_k"]
theorem sc_law_same : FnScope N_law_same ["_law_found", "_law_due"] (defScope (top 13)) := ⟨rfl, rfl, rfl, by decide +kernel, rfl, by decide +kernel, by decide +kernel⟩
def t_law_same (sp_law_same : SpD) : DS := (dSeq (dIf (dB (dCB rIsi (dCons (dVar 1) (dCons (dTup (dCons (dC (.ty "list")) (dCons (dC (.ty "tuple")) dNil))) dNil)))) (dSeq (dIf (dOr (dB (dOp rNe (dCB rIsi (dCons (dVar 0) (dCons (dC (.ty "list")) dNil))) (dCB rIsi (dCons (dVar 1) (dCons (dC (.ty "list")) dNil))))) (dB (dOp rNe (dCB rIsi (dCons (dVar 0) (dCons (dC (.ty "tuple")) dNil))) (dCB rIsi (dCons (dVar 1) (dCons (dC (.ty "tuple")) dNil)))))) (dRet (dC (.bl false))) dNx)
    (dSeq (dIf (dB (dOp rNe (dCB rLenU (dCons (dVar 0) dNil)) (dCB rLenU (dCons (dVar 1) dNil)))) (dRet (dC (.bl false))) dNx)
    (dRet (dOp rEq (dF (dLc (dRng1 (dCons (dCB rLenU (dCons (dVar 1) dNil)) dNil)) (dgN 2) (dNot (dB (dCall sp_law_same (dCons (dOp rIxU (dVar 0) (dVar 2)) (dCons (dOp rIxU (dVar 1) (dVar 2)) dNil))))) (dVar 2) [2])) (dF (dSz dNil)))))) dNx)
    (dSeq (dIf (dB (dOp rIs (dVar 1) (dC .non))) (dRet (dOp rIs (dVar 0) (dC .non))) dNx)
    (dSeq (dIf (dB (dCB rIsi (dCons (dVar 1) (dCons (dC (.ty "str")) dNil)))) (dRet (dAndV (dCB rIsi (dCons (dVar 0) (dCons (dC (.ty "str")) dNil))) (dOp rEq (dVar 0) (dVar 1)))) dNx)
    (dRet (dAndV (dCB rIsi (dCons (dVar 0) (dCons (dC (.ty "int")) dNil))) (dAndV (dOp rEq (dCB rIsi (dCons (dVar 0) (dCons (dC (.ty "bool")) dNil))) (dCB rIsi (dCons (dVar 1) (dCons (dC (.ty "bool")) dNil)))) (dOp rEq (dVar 0) (dVar 1))))))))
theorem b_law_same {P : Program} {w : World} {K : PySem.W.Frag} {mg : Str → Option Value} {base : Heap} {k : Nat} {f : Addr} {cdv : Value} {A : Around} {outer : List Env} {s : Shared} {H : Hp} {E : XK} (B : Bi mg) (hr : Room k (A.deeper (envOfC "_law_same" (defScope (top 13)) s.heap.objs.size f cdv))) (hgd : (A.deeper (envOfC "_law_same" (defScope (top 13)) s.heap.objs.size f cdv)).guards = some []) {k_law_same : Nat} {sp_law_same : SpD} (D_law_same : Df P w K mg base CX0 k_law_same "_law_same" ["_law_found", "_law_due"] sp_law_same) (h_law_same : k_law_same ≤ k) : PDSs (cxOf CX0 P w K mg base N_law_same "_law_same" (defScope (top 13)) f cdv A outer s H E).nox (defBody (top 13)) (t_law_same sp_law_same) :=
  (pds_cons (pd_if (pdt_val (pd_callB cd_isi rfl B.isinstance bb_isinstance (pda_cons (pd_var 1) (pda_cons (pd_tup (pda_cons (pd_ty rfl B.list bb_list) (pda_cons (pd_ty rfl B.tuple bb_tuple) pda_nil))) pda_nil)))) (pds_cons (pd_if (pdw_t (pdw_or (pdt_cmp (od_ne hr.units) (pd_callB cd_isi rfl B.isinstance bb_isinstance (pda_cons (pd_var 0) (pda_cons (pd_ty rfl B.list bb_list) pda_nil))) (pd_callB cd_isi rfl B.isinstance bb_isinstance (pda_cons (pd_var 1) (pda_cons (pd_ty rfl B.list bb_list) pda_nil))) (nomark _)) (pdw_or1 (pdt_cmp (od_ne hr.units) (pd_callB cd_isi rfl B.isinstance bb_isinstance (pda_cons (pd_var 0) (pda_cons (pd_ty rfl B.tuple bb_tuple) pda_nil))) (pd_callB cd_isi rfl B.isinstance bb_isinstance (pda_cons (pd_var 1) (pda_cons (pd_ty rfl B.tuple bb_tuple) pda_nil))) (nomark _))))) (pds_one (pd_ret pd_bl)) pds_nil)
    (pds_cons (pd_if (pdt_cmp (od_ne hr.units) (pd_callB cd_len rfl B.len bb_len (pda_cons (pd_var 0) pda_nil)) (pd_callB cd_len rfl B.len bb_len (pda_cons (pd_var 1) pda_nil)) (nomark _)) (pds_one (pd_ret pd_bl)) pds_nil)
    (pds_one (pd_ret (pd_cmp (od_eq hr.units) (pd_F (nl_lc (own := [("_law_k", 2)]) (gi_name 2) (wi_name (by decide)) rfl sc_law_same.nd (pdi_range1 rfl B.range (pda_cons (pd_callB cd_len rfl B.len bb_len (pda_cons (pd_var 1) pda_nil)) pda_nil)) (blkOk_by (own := [("_law_k", 2)]) (N := N_law_same) (sc := defScope (top 13)) (by decide +kernel)) (fun _ _ _ _ _ => (pg_name (i := 2) sc_law_same.nd rfl (Or.inl rfl))) (fun _ _ _ _ _ => (pdts_one (pdt_not (pdt_val (pd_call D_law_same (hr.mono h_law_same) hgd rfl (pda_cons (pd_ix (pd_var 0) (pd_var 2) (fun _ _ => rfl)) (pda_cons (pd_ix (pd_var 1) (pd_var 2) (fun _ _ => rfl)) pda_nil))))))) (fun _ _ _ _ _ => (pd_var 2)))) (pd_F (nl_lst pda_nil)) (nomark _)))))) pds_nil)
    (pds_cons (pd_if (pdt_cmp od_is (pd_var 1) pd_non (nomark _)) (pds_one (pd_ret (pd_cmp od_is (pd_var 0) pd_non (nomark _)))) pds_nil)
    (pds_cons (pd_if (pdt_val (pd_callB cd_isi rfl B.isinstance bb_isinstance (pda_cons (pd_var 1) (pda_cons (pd_ty rfl B.str bb_str) pda_nil)))) (pds_one (pd_ret (pd_and (pd_callB cd_isi rfl B.isinstance bb_isinstance (pda_cons (pd_var 0) (pda_cons (pd_ty rfl B.str bb_str) pda_nil))) (pd_one (pd_cmp (od_eq hr.units) (pd_var 0) (pd_var 1) (nomark _)))))) pds_nil)
    (pds_one (pd_ret (pd_and (pd_callB cd_isi rfl B.isinstance bb_isinstance (pda_cons (pd_var 0) (pda_cons (pd_ty rfl B.int bb_int) pda_nil))) (pd_and (pd_cmp (od_eq hr.units) (pd_callB cd_isi rfl B.isinstance bb_isinstance (pda_cons (pd_var 0) (pda_cons (pd_ty rfl B.bool bb_bool) pda_nil))) (pd_callB cd_isi rfl B.isinstance bb_isinstance (pda_cons (pd_var 1) (pda_cons (pd_ty rfl B.bool bb_bool) pda_nil))) (nomark _)) (pd_one (pd_cmp (od_eq hr.units) (pd_var 0) (pd_var 1) (nomark _))))))))))
abbrev N_law_letters : List Str := ["_law_deck_here", "_law_size", "_law_way", "_law_some", "_law_found", "_law_k"]
theorem sc_law_letters : FnScope N_law_letters ["_law_deck_here", "_law_size"] (defScope (top 14)) := ⟨rfl, rfl, rfl, by decide +kernel, rfl, by decide +kernel, by decide +kernel⟩
def t_law_letters (sp_law_next : SpD) : DS := (dSeq (dAsg (dTup (dCons (dCall sp_law_next (dCons (dVar 0) (dCons (dC (.int 4)) dNil))) (dCons (dM (dCN rListU (dCons (dC (.str "abcdefghijklmnopqrstuvwxyz")) dNil))) dNil))) (dgT 2 (dgCons (dgN 2) (dgCons (dgN 3) dgNil))))
    (dSeq (dIf (dB (dOp rEq (dVar 2) (dC (.int 2)))) (dRet (dOp rMulU (dM (dSz (dCons (dOp rIxU (dVar 3) (dCall sp_law_next (dCons (dVar 0) (dCons (dC (.int 26)) dNil)))) dNil))) (dVar 1))) dNx)
    (dSeq (dIf (dB (dOp rEq (dVar 2) (dC (.int 3)))) (dRet (dF (dLc (dRng1 (dCons (dVar 1) dNil)) (dgN 5) dYes (dOp rIxU (dVar 3) (dCall sp_law_next (dCons (dVar 0) (dCons (dC (.int 2)) dNil)))) [5]))) dNx)
    (dSeq (dSet 4 (dM (dSz dNil)))
    (dSeq (dWhile (dB (dOp rLt (dCB rLenU (dCons (dVar 4) dNil)) (dVar 1))) (dExpr (dAppend (dVar 4) (dPopAt (dVar 3) (dCall sp_law_next (dCons (dVar 0) (dCons (dCB rLenU (dCons (dVar 3) dNil)) dNil)))))))
    (dRet (dIfE (dB (dOp rEq (dVar 2) (dC (.int 0)))) (dFrz (dVar 4)) (dF (dCN rSortS (dCons (dVar 4) dNil))))))))))
theorem b_law_letters {P : Program} {w : World} {K : PySem.W.Frag} {mg : Str → Option Value} {base : Heap} {k : Nat} {f : Addr} {cdv : Value} {A : Around} {outer : List Env} {s : Shared} {H : Hp} {E : XK} (B : Bi mg) (hr : Room k (A.deeper (envOfC "_law_letters" (defScope (top 14)) s.heap.objs.size f cdv))) (hgd : (A.deeper (envOfC "_law_letters" (defScope (top 14)) s.heap.objs.size f cdv)).guards = some []) {k_law_next : Nat} {sp_law_next : SpD} (D_law_next : Df P w K mg base CX0 k_law_next "_law_next" ["_law_deck_here", "_law_many"] sp_law_next) (h_law_next : k_law_next ≤ k) : PDSs (cxOf CX0 P w K mg base N_law_letters "_law_letters" (defScope (top 14)) f cdv A outer s H E).nox (defBody (top 14)) (t_law_letters sp_law_next) :=
  (pds_cons (pd_asg (pd_tup (pda_cons (pd_call D_law_next (hr.mono h_law_next) hgd rfl (pda_cons (pd_var 0) (pda_cons pd_int pda_nil))) (pda_cons (pd_M (nl_callTy (cd_list rfl) rfl B.list bb_list (pda_cons pd_str pda_nil))) pda_nil))) (pdg_tup rfl (pdgs_cons (pdg_name (i := 2) sc_law_letters.nd rfl (Or.inl rfl)) (pdgs_cons (pdg_name (i := 3) sc_law_letters.nd rfl (Or.inr rfl)) pdgs_nil))))
    (pds_cons (pd_if (pdt_cmp (od_eq hr.units) (pd_var 2) pd_int (nomark _)) (pds_one (pd_ret (pd_mul (pd_M (nl_lst (pda_cons (pd_ix (pd_var 3) (pd_call D_law_next (hr.mono h_law_next) hgd rfl (pda_cons (pd_var 0) (pda_cons pd_int pda_nil))) (fun _ _ => rfl)) pda_nil))) (pd_var 1)))) pds_nil)
    (pds_cons (pd_if (pdt_cmp (od_eq hr.units) (pd_var 2) pd_int (nomark _)) (pds_one (pd_ret (pd_F (nl_lc (own := [("_law_k", 5)]) (gi_name 5) (wi_name (by decide)) rfl sc_law_letters.nd (pdi_range1 rfl B.range (pda_cons (pd_var 1) pda_nil)) (blkOk_by (own := [("_law_k", 5)]) (N := N_law_letters) (sc := defScope (top 14)) (by decide +kernel)) (fun _ _ _ _ _ => (pg_name (i := 5) sc_law_letters.nd rfl (Or.inl rfl))) (fun _ _ _ _ _ => pdts_nil) (fun _ _ _ _ _ => (pd_ix (pd_var 3) (pd_call D_law_next (hr.mono h_law_next) hgd rfl (pda_cons (pd_var 0) (pda_cons pd_int pda_nil))) (fun _ _ => rfl))))))) pds_nil)
    (pds_cons (pd_set (i := 4) sc_law_letters.nd rfl (Or.inl rfl) (pd_M (nl_lst pda_nil)))
    (pds_cons (pd_while PassesOwn.never (pdt_cmp od_lt (pd_callB cd_len rfl B.len bb_len (pda_cons (pd_var 4) pda_nil)) (pd_var 1) (nomark _)) (pds_one (pd_expr (pd_append (pd_var 4) (pd_popAt (pd_var 3) (pd_call D_law_next (hr.mono h_law_next) hgd rfl (pda_cons (pd_var 0) (pda_cons (pd_callB cd_len rfl B.len bb_len (pda_cons (pd_var 3) pda_nil)) pda_nil))))))))
    (pds_one (pd_ret (pd_ifExp (pdt_cmp (od_eq hr.units) (pd_var 2) pd_int (nomark _)) (pd_frz (pd_var 4)) (pd_F (nl_callB cd_sortS rfl B.sorted bb_sorted (pda_cons (pd_var 4) pda_nil)))))))))))
abbrev N_law_grown : List Str := ["_law_deck_here", "_law_size", "_law_way", "_law_letters_here", "_law_many", "_law_left"]
theorem sc_law_grown : FnScope N_law_grown ["_law_deck_here", "_law_size", "_law_way", "_law_letters_here"] (defScope (top 15)) := ⟨rfl, rfl, rfl, by decide +kernel, rfl, by decide +kernel, by decide +kernel⟩
def t_law_grown (sp_law_next : SpD) (sp_law_grown : SpD) : DS := (dSeq (dIf (dB (dOp rEq (dVar 1) (dC (.int 0)))) (dRet (dC .non)) dNx)
    (dSeq (dSet 4 (dOp rIxU (dF (dSz (dCons (dCall sp_law_next (dCons (dVar 0) (dCons (dVar 1) dNil))) (dCons (dOp rSub (dVar 1) (dC (.int 1))) (dCons (dC (.int 0)) (dCons (dOp rMulU (dOp rSub (dVar 1) (dC (.int 1))) (dOp rMod (dVar 1) (dC (.int 2)))) (dCons (dOp rDiv (dOp rSub (dVar 1) (dC (.int 1))) (dC (.int 2))) dNil))))))) (dVar 2)))
    (dSeq (dSet 5 (dCall sp_law_grown (dCons (dVar 0) (dCons (dVar 4) (dCons (dVar 2) (dCons (dSl (dVar 3) dNoPart (dPart (dVar 4))) dNil))))))
    (dRet (dTup (dCons (dVar 5) (dCons (dOp rIxU (dVar 3) (dVar 4)) (dCons (dCall sp_law_grown (dCons (dVar 0) (dCons (dOp rSub (dOp rSub (dVar 1) (dC (.int 1))) (dVar 4)) (dCons (dVar 2) (dCons (dSl (dVar 3) (dPart (dOp rAddU (dVar 4) (dC (.int 1)))) dNoPart) dNil))))) dNil))))))))
theorem b_law_grown {P : Program} {w : World} {K : PySem.W.Frag} {mg : Str → Option Value} {base : Heap} {k : Nat} {f : Addr} {cdv : Value} {A : Around} {outer : List Env} {s : Shared} {H : Hp} {E : XK} (B : Bi mg) (hr : Room k (A.deeper (envOfC "_law_grown" (defScope (top 15)) s.heap.objs.size f cdv))) (hgd : (A.deeper (envOfC "_law_grown" (defScope (top 15)) s.heap.objs.size f cdv)).guards = some []) {k_law_next : Nat} {sp_law_next : SpD} (D_law_next : Df P w K mg base CX0 k_law_next "_law_next" ["_law_deck_here", "_law_many"] sp_law_next) (h_law_next : k_law_next ≤ k) {k_law_grown : Nat} {sp_law_grown : SpD} (D_law_grown : Df P w K mg base CX0 k_law_grown "_law_grown" ["_law_deck_here", "_law_size", "_law_way", "_law_letters_here"] sp_law_grown) (h_law_grown : k_law_grown ≤ k) : PDSs (cxOf CX0 P w K mg base N_law_grown "_law_grown" (defScope (top 15)) f cdv A outer s H E).nox (defBody (top 15)) (t_law_grown sp_law_next sp_law_grown) :=
  (pds_cons (pd_if (pdt_cmp (od_eq hr.units) (pd_var 1) pd_int (nomark _)) (pds_one (pd_ret pd_non)) pds_nil)
    (pds_cons (pd_set (i := 4) sc_law_grown.nd rfl (Or.inl rfl) (pd_ix (pd_F (nl_lst (pda_cons (pd_call D_law_next (hr.mono h_law_next) hgd rfl (pda_cons (pd_var 0) (pda_cons (pd_var 1) pda_nil))) (pda_cons (pd_op od_sub (pd_var 1) pd_int) (pda_cons pd_int (pda_cons (pd_mul (pd_op od_sub (pd_var 1) pd_int) (pd_op od_mod (pd_var 1) pd_int)) (pda_cons (pd_op od_fdiv (pd_op od_sub (pd_var 1) pd_int) pd_int) pda_nil))))))) (pd_var 2) (fun _ _ => rfl)))
    (pds_cons (pd_set (i := 5) sc_law_grown.nd rfl (Or.inl rfl) (pd_call D_law_grown (hr.mono h_law_grown) hgd rfl (pda_cons (pd_var 0) (pda_cons (pd_var 4) (pda_cons (pd_var 2) (pda_cons (pd_sl (pd_var 3) pdo_none (pdo_some (pd_var 4))) pda_nil))))))
    (pds_one (pd_ret (pd_tup (pda_cons (pd_var 5) (pda_cons (pd_ix (pd_var 3) (pd_var 4) (fun _ _ => rfl)) (pda_cons (pd_call D_law_grown (hr.mono h_law_grown) hgd rfl (pda_cons (pd_var 0) (pda_cons (pd_op od_sub (pd_op od_sub (pd_var 1) pd_int) (pd_var 4)) (pda_cons (pd_var 2) (pda_cons (pd_sl (pd_var 3) (pdo_some (pd_add (pd_var 4) pd_int)) pdo_none) pda_nil))))) pda_nil)))))))))
abbrev N_law_tree : List Str := ["_law_deck_here", "_law_limit", "_law_size", "_law_way"]
theorem sc_law_tree : FnScope N_law_tree ["_law_deck_here", "_law_limit"] (defScope (top 16)) := ⟨rfl, rfl, rfl, by decide +kernel, rfl, by decide +kernel, by decide +kernel⟩
def t_law_tree (sp_law_next : SpD) (sp_law_grown : SpD) (sp_law_letters : SpD) : DS := (dSeq (dPar 2 3 (dCons (dOp rAddU (dC (.int 1)) (dCall sp_law_next (dCons (dVar 0) (dCons (dVar 1) dNil)))) (dCons (dOp rIxU (dF (dSz (dCons (dC (.int 0)) (dCons (dC (.int 0)) (dCons (dC (.int 0)) (dCons (dC (.int 1)) (dCons (dC (.int 2)) (dCons (dC (.int 3)) (dCons (dC (.int 4)) dNil))))))))) (dCall sp_law_next (dCons (dVar 0) (dCons (dC (.int 7)) dNil)))) dNil)))
    (dRet (dCall sp_law_grown (dCons (dVar 0) (dCons (dVar 2) (dCons (dVar 3) (dCons (dCall sp_law_letters (dCons (dVar 0) (dCons (dVar 2) dNil))) dNil)))))))
theorem b_law_tree {P : Program} {w : World} {K : PySem.W.Frag} {mg : Str → Option Value} {base : Heap} {k : Nat} {f : Addr} {cdv : Value} {A : Around} {outer : List Env} {s : Shared} {H : Hp} {E : XK} (B : Bi mg) (hr : Room k (A.deeper (envOfC "_law_tree" (defScope (top 16)) s.heap.objs.size f cdv))) (hgd : (A.deeper (envOfC "_law_tree" (defScope (top 16)) s.heap.objs.size f cdv)).guards = some []) {k_law_next : Nat} {sp_law_next : SpD} (D_law_next : Df P w K mg base CX0 k_law_next "_law_next" ["_law_deck_here", "_law_many"] sp_law_next) (h_law_next : k_law_next ≤ k) {k_law_grown : Nat} {sp_law_grown : SpD} (D_law_grown : Df P w K mg base CX0 k_law_grown "_law_grown" ["_law_deck_here", "_law_size", "_law_way", "_law_letters_here"] sp_law_grown) (h_law_grown : k_law_grown ≤ k) {k_law_letters : Nat} {sp_law_letters : SpD} (D_law_letters : Df P w K mg base CX0 k_law_letters "_law_letters" ["_law_deck_here", "_law_size"] sp_law_letters) (h_law_letters : k_law_letters ≤ k) : PDSs (cxOf CX0 P w K mg base N_law_tree "_law_tree" (defScope (top 16)) f cdv A outer s H E).nox (defBody (top 16)) (t_law_tree sp_law_next sp_law_grown sp_law_letters) :=
  (pds_cons (pd_par (i := 2) (j := 3) rfl sc_law_tree.nd rfl rfl (by decide) rfl rfl (pda_cons (pd_add pd_int (pd_call D_law_next (hr.mono h_law_next) hgd rfl (pda_cons (pd_var 0) (pda_cons (pd_var 1) pda_nil)))) (pda_cons (pd_ix (pd_F (nl_lst (pda_cons pd_int (pda_cons pd_int (pda_cons pd_int (pda_cons pd_int (pda_cons pd_int (pda_cons pd_int (pda_cons pd_int pda_nil))))))))) (pd_call D_law_next (hr.mono h_law_next) hgd rfl (pda_cons (pd_var 0) (pda_cons pd_int pda_nil))) (fun _ _ => rfl)) pda_nil)))
    (pds_one (pd_ret (pd_call D_law_grown (hr.mono h_law_grown) hgd rfl (pda_cons (pd_var 0) (pda_cons (pd_var 2) (pda_cons (pd_var 3) (pda_cons (pd_call D_law_letters (hr.mono h_law_letters) hgd rfl (pda_cons (pd_var 0) (pda_cons (pd_var 2) pda_nil))) pda_nil))))))))
abbrev N_law_text : List Str := ["_law_tree_here"]
theorem sc_law_text : FnScope N_law_text ["_law_tree_here"] (defScope (top 17)) := ⟨rfl, rfl, rfl, by decide +kernel, rfl, by decide +kernel, by decide +kernel⟩
def t_law_text (sp_law_text : SpD) : DS := (dSeq (dIf (dB (dOp rIs (dVar 0) (dC .non))) (dRet (dC (.str "-"))) dNx)
    (dSeq (dIf (dAnd (dB (dOp rIs (dOp rIxU (dVar 0) (dC (.int 0))) (dC .non))) (dB (dOp rIs (dOp rIxU (dVar 0) (dC (.int 2))) (dC .non)))) (dRet (dOp rIxU (dVar 0) (dC (.int 1)))) dNx)
    (dRet (dOp rAddU (dOp rAddU (dOp rAddU (dOp rAddU (dOp rAddU (dOp rIxU (dVar 0) (dC (.int 1))) (dC (.str "("))) (dCall sp_law_text (dCons (dOp rIxU (dVar 0) (dC (.int 0))) dNil))) (dC (.str ","))) (dCall sp_law_text (dCons (dOp rIxU (dVar 0) (dC (.int 2))) dNil))) (dC (.str ")"))))))
theorem b_law_text {P : Program} {w : World} {K : PySem.W.Frag} {mg : Str → Option Value} {base : Heap} {k : Nat} {f : Addr} {cdv : Value} {A : Around} {outer : List Env} {s : Shared} {H : Hp} {E : XK} (B : Bi mg) (hr : Room k (A.deeper (envOfC "_law_text" (defScope (top 17)) s.heap.objs.size f cdv))) (hgd : (A.deeper (envOfC "_law_text" (defScope (top 17)) s.heap.objs.size f cdv)).guards = some []) {k_law_text : Nat} {sp_law_text : SpD} (D_law_text : Df P w K mg base CX0 k_law_text "_law_text" ["_law_tree_here"] sp_law_text) (h_law_text : k_law_text ≤ k) : PDSs (cxOf CX0 P w K mg base N_law_text "_law_text" (defScope (top 17)) f cdv A outer s H E).nox (defBody (top 17)) (t_law_text sp_law_text) :=
  (pds_cons (pd_if (pdt_cmp od_is (pd_var 0) pd_non (nomark _)) (pds_one (pd_ret pd_str)) pds_nil)
    (pds_cons (pd_if (pdw_t (pdw_and (pdt_cmp od_is (pd_ix (pd_var 0) pd_int (fun _ _ => rfl)) pd_non (nomark _)) (pdw_and1 (pdt_cmp od_is (pd_ix (pd_var 0) pd_int (fun _ _ => rfl)) pd_non (nomark _))))) (pds_one (pd_ret (pd_ix (pd_var 0) pd_int (fun _ _ => rfl)))) pds_nil)
    (pds_one (pd_ret (pd_add (pd_add (pd_add (pd_add (pd_add (pd_ix (pd_var 0) pd_int (fun _ _ => rfl)) pd_str) (pd_call D_law_text (hr.mono h_law_text) hgd rfl (pda_cons (pd_ix (pd_var 0) pd_int (fun _ _ => rfl)) pda_nil))) pd_str) (pd_call D_law_text (hr.mono h_law_text) hgd rfl (pda_cons (pd_ix (pd_var 0) pd_int (fun _ _ => rfl)) pda_nil))) pd_str)))))
abbrev N_law : List Str := ["_law_script", "_law_deck_here", "_law_turn", "_law_tree_here", "_law_relabelled", "_law_others", "_law_other", "_law_kept", "_law_due", "_law_found"]
theorem sc_law : FnScope N_law ["_law_script"] (defScope (top 18)) := ⟨rfl, rfl, rfl, by decide +kernel, rfl, by decide +kernel, by decide +kernel⟩
def t_law (sp_law_deck : SpD) (sp_law_same : SpD) (sp_tree_text : SpD) (sp_law_tree : SpD) (sp_law_one : SpD) (sp_mirrored : SpD) (sp_law_text : SpD) : DS := (dSeq (dSet 1 (dCall sp_law_deck (dCons (dVar 0) dNil)))
    (dSeq (dIf (dNot (dB (dCall sp_law_same (dCons (dCall sp_tree_text (dCons (dTup (dCons (dC .non) (dCons (dC (.str "q")) (dCons (dC .non) dNil)))) dNil)) (dCons (dC (.str "q")) dNil))))) (dRet (dC (.bl false))) dNx)
    (dSeq (dFor (dRng1 (dCons (dC (.int 10)) dNil)) (dgN 2) (dSeq (dSet 3 (dCall sp_law_tree (dCons (dVar 1) (dCons (dC (.int 12)) dNil))))
    (dSeq (dSet 4 (dTup (dCons (dOp rIxU (dVar 3) (dC (.int 0))) (dCons (dCall sp_law_one (dCons (dVar 1) (dCons (dF (dCN rListU (dCons (dC (.str "abc")) dNil))) dNil))) (dCons (dOp rIxU (dVar 3) (dC (.int 2))) dNil)))))
    (dSeq (dSet 5 (dF (dSz (dCons (dVar 3) (dCons (dVar 4) (dCons (dCall sp_mirrored (dCons (dVar 3) dNil)) (dCons (dCall sp_law_tree (dCons (dVar 1) (dCons (dC (.int 3)) dNil))) (dCons (dCall sp_law_tree (dCons (dVar 1) (dCons (dC (.int 12)) dNil))) dNil))))))))
    (dFor (dIt (dOp rAddU (dVar 5) (dF (dSz (dCons (dTup (dCons (dC .non) (dCons (dOp rIxU (dVar 3) (dC (.int 1))) (dCons (dOp rIxU (dVar 3) (dC (.int 2))) dNil)))) (dCons (dTup (dCons (dOp rIxU (dVar 3) (dC (.int 0))) (dCons (dOp rIxU (dVar 3) (dC (.int 1))) (dCons (dC .non) dNil)))) dNil)))))) (dgN 6) (dSeq (dPar 7 8 (dCons (dCB rRepr (dCons (dF (dSz (dCons (dVar 3) (dCons (dVar 6) dNil)))) dNil)) (dCons (dF (dSz (dCons (dCall sp_law_text (dCons (dVar 3) dNil)) (dCons (dCall sp_law_text (dCons (dVar 6) dNil)) dNil)))) dNil)))
    (dSeq (dSet 9 (dF (dSz (dCons (dCall sp_tree_text (dCons (dVar 3) dNil)) (dCons (dCall sp_tree_text (dCons (dVar 6) dNil)) dNil)))))
    (dSeq (dIf (dOr (dNot (dB (dCall sp_law_same (dCons (dVar 9) (dCons (dVar 8) dNil))))) (dB (dOp rNe (dOp rEq (dOp rIxU (dVar 9) (dC (.int 0))) (dOp rIxU (dVar 9) (dC (.int 1)))) (dOp rEq (dVar 3) (dVar 6))))) (dRet (dC (.bl false))) dNx)
    (dIf (dOr (dB (dOp rNe (dCB rRepr (dCons (dF (dSz (dCons (dVar 3) (dCons (dVar 6) dNil)))) dNil)) (dVar 7))) (dB (dOp rNe (dCall sp_tree_text (dCons (dVar 3) dNil)) (dOp rIxU (dVar 8) (dC (.int 0)))))) (dRet (dC (.bl false))) dNx)))))))))
    (dRet (dC (.bl true))))))
theorem b_law {P : Program} {w : World} {K : PySem.W.Frag} {mg : Str → Option Value} {base : Heap} {k : Nat} {f : Addr} {cdv : Value} {A : Around} {outer : List Env} {s : Shared} {H : Hp} {E : XK} (B : Bi mg) (hr : Room k (A.deeper (envOfC "law" (defScope (top 18)) s.heap.objs.size f cdv))) (hgd : (A.deeper (envOfC "law" (defScope (top 18)) s.heap.objs.size f cdv)).guards = some []) {k_law_deck : Nat} {sp_law_deck : SpD} (D_law_deck : Df P w K mg base CX0 k_law_deck "_law_deck" ["_law_script"] sp_law_deck) (h_law_deck : k_law_deck ≤ k) {k_law_same : Nat} {sp_law_same : SpD} (D_law_same : Df P w K mg base CX0 k_law_same "_law_same" ["_law_found", "_law_due"] sp_law_same) (h_law_same : k_law_same ≤ k) {k_tree_text : Nat} {sp_tree_text : SpD} (D_tree_text : Df P w K mg base CX0 k_tree_text "tree_text" ["tree"] sp_tree_text) (h_tree_text : k_tree_text ≤ k) {k_law_tree : Nat} {sp_law_tree : SpD} (D_law_tree : Df P w K mg base CX0 k_law_tree "_law_tree" ["_law_deck_here", "_law_limit"] sp_law_tree) (h_law_tree : k_law_tree ≤ k) {k_law_one : Nat} {sp_law_one : SpD} (D_law_one : Df P w K mg base CX0 k_law_one "_law_one" ["_law_deck_here", "_law_items"] sp_law_one) (h_law_one : k_law_one ≤ k) {k_mirrored : Nat} {sp_mirrored : SpD} (D_mirrored : Df P w K mg base CX0 k_mirrored "mirrored" ["tree"] sp_mirrored) (h_mirrored : k_mirrored ≤ k) {k_law_text : Nat} {sp_law_text : SpD} (D_law_text : Df P w K mg base CX0 k_law_text "_law_text" ["_law_tree_here"] sp_law_text) (h_law_text : k_law_text ≤ k) : PDSs (cxOf CX0 P w K mg base N_law "law" (defScope (top 18)) f cdv A outer s H E).nox (defBody (top 18)) (t_law sp_law_deck sp_law_same sp_tree_text sp_law_tree sp_law_one sp_mirrored sp_law_text) :=
  (pds_cons (pd_set (i := 1) sc_law.nd rfl (Or.inl rfl) (pd_call D_law_deck (hr.mono h_law_deck) hgd rfl (pda_cons (pd_var 0) pda_nil)))
    (pds_cons (pd_if (pdt_not (pdt_val (pd_call D_law_same (hr.mono h_law_same) hgd rfl (pda_cons (pd_call D_tree_text (hr.mono h_tree_text) hgd rfl (pda_cons (pd_tup (pda_cons pd_non (pda_cons pd_str (pda_cons pd_non pda_nil)))) pda_nil)) (pda_cons pd_str pda_nil))))) (pds_one (pd_ret pd_bl)) pds_nil)
    (pds_cons (pd_for PassesOwn.never rfl (pdi_range1 rfl B.range (pda_cons pd_int pda_nil)) (pdg_name (i := 2) sc_law.nd rfl (Or.inl rfl)) (pds_cons (pd_set (i := 3) sc_law.nd rfl (Or.inl rfl) (pd_call D_law_tree (hr.mono h_law_tree) hgd rfl (pda_cons (pd_var 1) (pda_cons pd_int pda_nil))))
    (pds_cons (pd_set (i := 4) sc_law.nd rfl (Or.inl rfl) (pd_tup (pda_cons (pd_ix (pd_var 3) pd_int (fun _ _ => rfl)) (pda_cons (pd_call D_law_one (hr.mono h_law_one) hgd rfl (pda_cons (pd_var 1) (pda_cons (pd_F (nl_callTy (cd_list rfl) rfl B.list bb_list (pda_cons pd_str pda_nil))) pda_nil))) (pda_cons (pd_ix (pd_var 3) pd_int (fun _ _ => rfl)) pda_nil)))))
    (pds_cons (pd_set (i := 5) sc_law.nd rfl (Or.inl rfl) (pd_F (nl_lst (pda_cons (pd_var 3) (pda_cons (pd_var 4) (pda_cons (pd_call D_mirrored (hr.mono h_mirrored) hgd rfl (pda_cons (pd_var 3) pda_nil)) (pda_cons (pd_call D_law_tree (hr.mono h_law_tree) hgd rfl (pda_cons (pd_var 1) (pda_cons pd_int pda_nil))) (pda_cons (pd_call D_law_tree (hr.mono h_law_tree) hgd rfl (pda_cons (pd_var 1) (pda_cons pd_int pda_nil))) pda_nil))))))))
    (pds_one (pd_for PassesOwn.never rfl (pdi_it (pd_add (pd_var 5) (pd_F (nl_lst (pda_cons (pd_tup (pda_cons pd_non (pda_cons (pd_ix (pd_var 3) pd_int (fun _ _ => rfl)) (pda_cons (pd_ix (pd_var 3) pd_int (fun _ _ => rfl)) pda_nil)))) (pda_cons (pd_tup (pda_cons (pd_ix (pd_var 3) pd_int (fun _ _ => rfl)) (pda_cons (pd_ix (pd_var 3) pd_int (fun _ _ => rfl)) (pda_cons pd_non pda_nil)))) pda_nil)))))) (pdg_name (i := 6) sc_law.nd rfl (Or.inl rfl)) (pds_cons (pd_par (i := 7) (j := 8) rfl sc_law.nd rfl rfl (by decide) rfl rfl (pda_cons (pd_callB (cd_repr hr hgd) rfl B.repr bb_repr (pda_cons (pd_F (nl_lst (pda_cons (pd_var 3) (pda_cons (pd_var 6) pda_nil)))) pda_nil)) (pda_cons (pd_F (nl_lst (pda_cons (pd_call D_law_text (hr.mono h_law_text) hgd rfl (pda_cons (pd_var 3) pda_nil)) (pda_cons (pd_call D_law_text (hr.mono h_law_text) hgd rfl (pda_cons (pd_var 6) pda_nil)) pda_nil)))) pda_nil)))
    (pds_cons (pd_set (i := 9) sc_law.nd rfl (Or.inl rfl) (pd_F (nl_lst (pda_cons (pd_call D_tree_text (hr.mono h_tree_text) hgd rfl (pda_cons (pd_var 3) pda_nil)) (pda_cons (pd_call D_tree_text (hr.mono h_tree_text) hgd rfl (pda_cons (pd_var 6) pda_nil)) pda_nil)))))
    (pds_cons (pd_if (pdw_t (pdw_or (pdt_not (pdt_val (pd_call D_law_same (hr.mono h_law_same) hgd rfl (pda_cons (pd_var 9) (pda_cons (pd_var 8) pda_nil))))) (pdw_or1 (pdt_cmp (od_ne hr.units) (pd_cmp (od_eq hr.units) (pd_ix (pd_var 9) pd_int (fun _ _ => rfl)) (pd_ix (pd_var 9) pd_int (fun _ _ => rfl)) (nomark _)) (pd_cmp (od_eq hr.units) (pd_var 3) (pd_var 6) (nomark _)) (nomark _))))) (pds_one (pd_ret pd_bl)) pds_nil)
    (pds_one (pd_if (pdw_t (pdw_or (pdt_cmp (od_ne hr.units) (pd_callB (cd_repr hr hgd) rfl B.repr bb_repr (pda_cons (pd_F (nl_lst (pda_cons (pd_var 3) (pda_cons (pd_var 6) pda_nil)))) pda_nil)) (pd_var 7) (nomark _)) (pdw_or1 (pdt_cmp (od_ne hr.units) (pd_call D_tree_text (hr.mono h_tree_text) hgd rfl (pda_cons (pd_var 3) pda_nil)) (pd_ix (pd_var 8) pd_int (fun _ _ => rfl)) (nomark _))))) (pds_one (pd_ret pd_bl)) pds_nil)))))))))))
    (pds_one (pd_ret pd_bl)))))
end Pr
namespace Pr
open PySem PySem.Spec PyProof.Rows L2 Dz
theorem e_law_next : ∀ ws s R, spNext ws s R X0 → ws.length = 2 ∧ ∀ K H, MRep K H s → ∃ s1, MRep K H s1 ∧ Stp H s H s1 ∧ t_law_next { nx := fun _ s' => Lw R .non s', rt := Lw R } (Dz.startD N_law_next ws) s1 := by
  rintro ws s R ⟨p, m, rfl, hb, h0, h1, hn, hR⟩
  refine ⟨rfl, fun K H mr => ?_⟩
  obtain ⟨st, ⟨k, hk, hI⟩, nd, np, hv, ra, mr1, st1⟩ := box_open mr hb
  obtain ⟨cells, rests, c, rfl, hl, hl0, hl1, hc0, hc1⟩ := hI
  have one := mr.one
  obtain ⟨M, n, pv⟩ := s
  simp only at hb hk hv nd np ra mr1 st1 hn hR one
  match pv, ra with
  | [a, b], ra =>
    simp only [List.nodup_cons, List.mem_cons, List.not_mem_nil, or_false, not_or] at nd np
    refine ⟨_, mr1, st1, ?_⟩
    have e1 : a ≠ b := nd.1
    have np1 : p ≠ a := np.1
    have np2 : p ≠ b := np.2
    obtain ⟨x, hx, hx1, hx2, hx3⟩ := atI_mod (c := c) hl0
    obtain ⟨y, hy, hy1, hy2, hy3⟩ := atI_mod (xs := rests) (c := c) (by omega)
    rw [hl] at hx hx1 hx3
    have i2 : ixN 3 2 = some 2 := rfl
    simp only [Dz.dSeq, Dz.dIf, Dz.dB, Dz.dOp, Dz.dUn, Dz.dVar, Dz.dC, Dz.dRet, Dz.dRetN, Dz.dNx, Dz.dBrk, Dz.dCnt, Dz.dAsg, Dz.dSet, Dz.dPar, Dz.dPar3, Dz.dgT, Dz.dgTt, Dz.dgCons, Dz.dgNil, Dz.dgN, Dz.dCall, Dz.dCons, Dz.dNil, Dz.dTup, Dz.dCB, Dz.dCN, Dz.dF, Dz.dM, Dz.dSz, Dz.dExpr, Dz.dNot, Dz.dAnd, Dz.dOr, Dz.dAndV, Dz.dOrV, Dz.dNotV, Dz.dIfE, Dz.dChain, Dz.dFrz, Dz.dIt, Dz.dRng1, Dz.dRng2, Dz.dSl, Dz.dNoPart, Dz.dPart, Dz.dCat, Dz.dRep, Dz.dLc, Dz.dFor, Dz.dAppend, Dz.dPop, Dz.dPopAt, Dz.rPopAtD, Dz.dSetIx, Dz.dYes, Dz.dRev, Dz.asI, Dz.asQ, Dz.asL, Dz.rIsN, Dz.rIs, Dz.rIsNot, Dz.isNon_d, Dz.isNon_non, Dz.isNon_tup, Dz.isNon_lst, Dz.isNon_str, Dz.isNon_int, Dz.isNon_bl, Dz.isNon_ref, Dz.isNon_dic, Dz.isNon_ty, Dz.rAddU, Dz.rSub, Dz.rMod, Dz.rDiv, Dz.rPow, Dz.rLt, Dz.rLe, Dz.rGt, Dz.rGe, Dz.rEq, Dz.rNe, Dz.rEqv, Dz.rInt2, Dz.rMax2, Dz.rMin2, Dz.rI, Dz.rCmp, Dz.rIxU, Dz.rAbs, Dz.rToInt, Dz.rListU, Dz.rSlU, Dz.trk, Dz.rLenU, Dz.rMulU, Dz.rNeg, Dz.startD, Dz.wipeD, Dz.Tr.d, Dz.Sg.put_M, Dz.Sg.put_n, Dz.Sg.put_pv, Dz.Sg.del_M, Dz.Sg.del_n, Dz.Sg.del_pv, Dz.Mm.put_same, Dz.Mm.put_put, Dz.Sg.put_put, Dz.Mm.put_ne, Dz.Mm.del_ne, Dz.rIsi, Dz.tyN, Dz.tyNames, Dz.isiT, Dz.subT, Dz.tyOk, Dz.tyNames, Dz.pyOf, Dz.toPy, Dz.toPys, Dz.Sg.put_mk, Dz.Sg.del_mk, Dz.spend_M, Dz.spend_pv, Dz.spend_n, Dz.spend_spend, Dz.spend_put, Dz.spend_del, Dz.spNext_iff, Dz.asI_lst, Dz.asI_tup, Dz.dFJ, Dz.dJs, Dz.dFmt, Dz.Tr.isNil, List.map_cons, List.map_nil, List.length_cons, List.length_nil, List.length_map, List.length_set, List.replicate, Nat.reduceSub, Nat.reduceAdd, List.cons_append, List.nil_append, List.getElem?_cons_zero, List.getElem?_cons_succ, List.set_cons_zero, List.set_cons_succ, if_true, if_false, Bool.false_eq_true, id, Nat.sub_zero, Bool.not_true, Bool.not_false, true_and, and_true, ne_eq, not_false_eq_true, not_true_eq_false, reduceCtorEq, Option.map_some, Option.bind_some, String.reduceBEq, Bool.or_false, Bool.or_true, Bool.false_or, Bool.true_or, Bool.and_true, Bool.and_false, Bool.true_and, Bool.false_and, decide_true, decide_false, List.all_cons, List.all_nil, List.any_cons, List.any_nil, beq_self_eq_true, t_law_next, rawM, rawV, np1, np2, e1, Ne.symm np1, Ne.symm np2, e1.symm, hx, hy, hy3, i2, hl, Sg.put_mk, map_set_int]
    refine ⟨by omega, ?_⟩
    have hc2 : c < 1000000000001 := by omega
    have hmn : ∀ z : Int, 0 ≤ z % m ∧ z % m < m := fun z => ⟨Int.emod_nonneg _ (by omega), Int.emod_lt_of_pos _ h0⟩
    split
    · refine ⟨h0, ⟨h0, by omega⟩, ?_⟩
      refine next_fin (cells := cells) (rests := rests) (rs := rests.set (c % (rests.length : Int)).toNat (y / m)) (c := c) (m := m) hb hn hk hl hl0 hl1 hc0 hc1 e1 np1 np2 hv one (by simp) ?_ ?_ ?_ (fun q q1 q2 q3 => ?_) hR (hmn y).1 (hmn y).2
      · simp [Mm.put, np2, e1, np1]
      · simp [Mm.put, np1.symm, e1]
      · simp [Mm.put]
      · simp [Mm.put, q1, q2, q3]
    · refine ⟨cmul_l (by omega) (by omega), cmul_l (by omega) (by omega), cmul_r (by omega) (by omega), cmul_l (by omega) (by omega), by omega, cmul_mod (by omega) (by omega), by omega, cmul_mod (by omega) (by omega), by omega, ⟨by omega, by omega⟩, h0, ?_⟩
      refine next_fin (cells := cells) (rests := rests) (rs := rests) (c := c) (m := m) hb hn hk hl hl0 hl1 hc0 hc1 e1 np1 np2 hv one rfl ?_ ?_ ?_ (fun q q1 q2 q3 => ?_) hR (hmn _).1 (hmn _).2
      · simp [Mm.put]
      · simp [Mm.put, np1.symm]
      · simp [Mm.put, np2.symm, e1.symm]
      · simp [Mm.put, q1, q2, q3]
end Pr
namespace Pr
open PySem PySem.Spec PyProof.Rows L2 Dz
def s0 : Sg := ⟨fun _ => none, 1000000000000, []⟩
def spDeck : SpD := fun ws s R _ => s = s0 ∧ ∃ ns : List Int, ws = [.lst (ns.map D.int)] ∧ ∀ (p : Addr) (s' : Sg), Dk s' p → s'.n = 1000000000000 → R (.ref p) s'
theorem e_law_deck : ∀ ws s R, spDeck ws s R X0 → ws.length = 1 ∧ t_law_deck { nx := fun _ s' => Lw R .non s', rt := Lw R } (Dz.startD N_law_deck ws) s := by
  rintro ws s R ⟨rfl, ns, rfl, hR⟩
  refine ⟨rfl, ?_⟩
  simp only [Dz.dSeq, Dz.dIf, Dz.dB, Dz.dOp, Dz.dUn, Dz.dVar, Dz.dC, Dz.dRet, Dz.dRetN, Dz.dNx, Dz.dBrk, Dz.dCnt, Dz.dAsg, Dz.dSet, Dz.dPar, Dz.dPar3, Dz.dgT, Dz.dgTt, Dz.dgCons, Dz.dgNil, Dz.dgN, Dz.dCall, Dz.dCons, Dz.dNil, Dz.dTup, Dz.dCB, Dz.dCN, Dz.dF, Dz.dM, Dz.dSz, Dz.dExpr, Dz.dNot, Dz.dAnd, Dz.dOr, Dz.dAndV, Dz.dOrV, Dz.dNotV, Dz.dIfE, Dz.dChain, Dz.dFrz, Dz.dIt, Dz.dRng1, Dz.dRng2, Dz.dSl, Dz.dNoPart, Dz.dPart, Dz.dCat, Dz.dRep, Dz.dLc, Dz.dFor, Dz.dAppend, Dz.dPop, Dz.dPopAt, Dz.rPopAtD, Dz.dSetIx, Dz.dYes, Dz.dRev, Dz.asI, Dz.asQ, Dz.asL, Dz.rIsN, Dz.rIs, Dz.rIsNot, Dz.isNon_d, Dz.isNon_non, Dz.isNon_tup, Dz.isNon_lst, Dz.isNon_str, Dz.isNon_int, Dz.isNon_bl, Dz.isNon_ref, Dz.isNon_dic, Dz.isNon_ty, Dz.rAddU, Dz.rSub, Dz.rMod, Dz.rDiv, Dz.rPow, Dz.rLt, Dz.rLe, Dz.rGt, Dz.rGe, Dz.rEq, Dz.rNe, Dz.rEqv, Dz.rInt2, Dz.rMax2, Dz.rMin2, Dz.rI, Dz.rCmp, Dz.rIxU, Dz.rAbs, Dz.rToInt, Dz.rListU, Dz.rSlU, Dz.trk, Dz.rLenU, Dz.rMulU, Dz.rNeg, Dz.startD, Dz.wipeD, Dz.Tr.d, Dz.Sg.put_M, Dz.Sg.put_n, Dz.Sg.put_pv, Dz.Sg.del_M, Dz.Sg.del_n, Dz.Sg.del_pv, Dz.Mm.put_same, Dz.Mm.put_put, Dz.Sg.put_put, Dz.Mm.put_ne, Dz.Mm.del_ne, Dz.rIsi, Dz.tyN, Dz.tyNames, Dz.isiT, Dz.subT, Dz.tyOk, Dz.tyNames, Dz.pyOf, Dz.toPy, Dz.toPys, Dz.Sg.put_mk, Dz.Sg.del_mk, Dz.spend_M, Dz.spend_pv, Dz.spend_n, Dz.spend_spend, Dz.spend_put, Dz.spend_del, Dz.spNext_iff, Dz.asI_lst, Dz.asI_tup, Dz.dFJ, Dz.dJs, Dz.dFmt, Dz.Tr.isNil, List.map_cons, List.map_nil, List.length_cons, List.length_nil, List.length_map, List.length_set, List.replicate, Nat.reduceSub, Nat.reduceAdd, List.cons_append, List.nil_append, List.getElem?_cons_zero, List.getElem?_cons_succ, List.set_cons_zero, List.set_cons_succ, if_true, if_false, Bool.false_eq_true, id, Nat.sub_zero, Bool.not_true, Bool.not_false, true_and, and_true, ne_eq, not_false_eq_true, not_true_eq_false, reduceCtorEq, Option.map_some, Option.bind_some, String.reduceBEq, Bool.or_false, Bool.or_true, Bool.false_or, Bool.true_or, Bool.and_true, Bool.and_false, Bool.true_and, Bool.false_and, decide_true, decide_false, List.all_cons, List.all_nil, List.any_cons, List.any_nil, beq_self_eq_true, t_law_deck, s0]
  refine lc_map (fun x => match x with | .int i => .int (if i < 0 then -i else i) | x => x) rfl ?_ ?_ ?_
  · rw [cut_to (by omega)]
    rintro x hx k B hk
    obtain ⟨i, -, rfl⟩ := List.mem_map.mp (List.mem_of_mem_take hx)
    simp only [Dz.dSeq, Dz.dIf, Dz.dB, Dz.dOp, Dz.dUn, Dz.dVar, Dz.dC, Dz.dRet, Dz.dRetN, Dz.dNx, Dz.dBrk, Dz.dCnt, Dz.dAsg, Dz.dSet, Dz.dPar, Dz.dPar3, Dz.dgT, Dz.dgTt, Dz.dgCons, Dz.dgNil, Dz.dgN, Dz.dCall, Dz.dCons, Dz.dNil, Dz.dTup, Dz.dCB, Dz.dCN, Dz.dF, Dz.dM, Dz.dSz, Dz.dExpr, Dz.dNot, Dz.dAnd, Dz.dOr, Dz.dAndV, Dz.dOrV, Dz.dNotV, Dz.dIfE, Dz.dChain, Dz.dFrz, Dz.dIt, Dz.dRng1, Dz.dRng2, Dz.dSl, Dz.dNoPart, Dz.dPart, Dz.dCat, Dz.dRep, Dz.dLc, Dz.dFor, Dz.dAppend, Dz.dPop, Dz.dPopAt, Dz.rPopAtD, Dz.dSetIx, Dz.dYes, Dz.dRev, Dz.asI, Dz.asQ, Dz.asL, Dz.rIsN, Dz.rIs, Dz.rIsNot, Dz.isNon_d, Dz.isNon_non, Dz.isNon_tup, Dz.isNon_lst, Dz.isNon_str, Dz.isNon_int, Dz.isNon_bl, Dz.isNon_ref, Dz.isNon_dic, Dz.isNon_ty, Dz.rAddU, Dz.rSub, Dz.rMod, Dz.rDiv, Dz.rPow, Dz.rLt, Dz.rLe, Dz.rGt, Dz.rGe, Dz.rEq, Dz.rNe, Dz.rEqv, Dz.rInt2, Dz.rMax2, Dz.rMin2, Dz.rI, Dz.rCmp, Dz.rIxU, Dz.rAbs, Dz.rToInt, Dz.rListU, Dz.rSlU, Dz.trk, Dz.rLenU, Dz.rMulU, Dz.rNeg, Dz.startD, Dz.wipeD, Dz.Tr.d, Dz.Sg.put_M, Dz.Sg.put_n, Dz.Sg.put_pv, Dz.Sg.del_M, Dz.Sg.del_n, Dz.Sg.del_pv, Dz.Mm.put_same, Dz.Mm.put_put, Dz.Sg.put_put, Dz.Mm.put_ne, Dz.Mm.del_ne, Dz.rIsi, Dz.tyN, Dz.tyNames, Dz.isiT, Dz.subT, Dz.tyOk, Dz.tyNames, Dz.pyOf, Dz.toPy, Dz.toPys, Dz.Sg.put_mk, Dz.Sg.del_mk, Dz.spend_M, Dz.spend_pv, Dz.spend_n, Dz.spend_spend, Dz.spend_put, Dz.spend_del, Dz.spNext_iff, Dz.asI_lst, Dz.asI_tup, Dz.dFJ, Dz.dJs, Dz.dFmt, Dz.Tr.isNil, List.map_cons, List.map_nil, List.length_cons, List.length_nil, List.length_map, List.length_set, List.replicate, Nat.reduceSub, Nat.reduceAdd, List.cons_append, List.nil_append, List.getElem?_cons_zero, List.getElem?_cons_succ, List.set_cons_zero, List.set_cons_succ, if_true, if_false, Bool.false_eq_true, id, Nat.sub_zero, Bool.not_true, Bool.not_false, true_and, and_true, ne_eq, not_false_eq_true, not_true_eq_false, reduceCtorEq, Option.map_some, Option.bind_some, String.reduceBEq, Bool.or_false, Bool.or_true, Bool.false_or, Bool.true_or, Bool.and_true, Bool.and_false, Bool.true_and, Bool.false_and, decide_true, decide_false, List.all_cons, List.all_nil, List.any_cons, List.any_nil, beq_self_eq_true]
    exact hk
  · rw [cut_to (by omega)]
    simp; omega
  · simp only [Dz.dSeq, Dz.dIf, Dz.dB, Dz.dOp, Dz.dUn, Dz.dVar, Dz.dC, Dz.dRet, Dz.dRetN, Dz.dNx, Dz.dBrk, Dz.dCnt, Dz.dAsg, Dz.dSet, Dz.dPar, Dz.dPar3, Dz.dgT, Dz.dgTt, Dz.dgCons, Dz.dgNil, Dz.dgN, Dz.dCall, Dz.dCons, Dz.dNil, Dz.dTup, Dz.dCB, Dz.dCN, Dz.dF, Dz.dM, Dz.dSz, Dz.dExpr, Dz.dNot, Dz.dAnd, Dz.dOr, Dz.dAndV, Dz.dOrV, Dz.dNotV, Dz.dIfE, Dz.dChain, Dz.dFrz, Dz.dIt, Dz.dRng1, Dz.dRng2, Dz.dSl, Dz.dNoPart, Dz.dPart, Dz.dCat, Dz.dRep, Dz.dLc, Dz.dFor, Dz.dAppend, Dz.dPop, Dz.dPopAt, Dz.rPopAtD, Dz.dSetIx, Dz.dYes, Dz.dRev, Dz.asI, Dz.asQ, Dz.asL, Dz.rIsN, Dz.rIs, Dz.rIsNot, Dz.isNon_d, Dz.isNon_non, Dz.isNon_tup, Dz.isNon_lst, Dz.isNon_str, Dz.isNon_int, Dz.isNon_bl, Dz.isNon_ref, Dz.isNon_dic, Dz.isNon_ty, Dz.rAddU, Dz.rSub, Dz.rMod, Dz.rDiv, Dz.rPow, Dz.rLt, Dz.rLe, Dz.rGt, Dz.rGe, Dz.rEq, Dz.rNe, Dz.rEqv, Dz.rInt2, Dz.rMax2, Dz.rMin2, Dz.rI, Dz.rCmp, Dz.rIxU, Dz.rAbs, Dz.rToInt, Dz.rListU, Dz.rSlU, Dz.trk, Dz.rLenU, Dz.rMulU, Dz.rNeg, Dz.startD, Dz.wipeD, Dz.Tr.d, Dz.Sg.put_M, Dz.Sg.put_n, Dz.Sg.put_pv, Dz.Sg.del_M, Dz.Sg.del_n, Dz.Sg.del_pv, Dz.Mm.put_same, Dz.Mm.put_put, Dz.Sg.put_put, Dz.Mm.put_ne, Dz.Mm.del_ne, Dz.rIsi, Dz.tyN, Dz.tyNames, Dz.isiT, Dz.subT, Dz.tyOk, Dz.tyNames, Dz.pyOf, Dz.toPy, Dz.toPys, Dz.Sg.put_mk, Dz.Sg.del_mk, Dz.spend_M, Dz.spend_pv, Dz.spend_n, Dz.spend_spend, Dz.spend_put, Dz.spend_del, Dz.spNext_iff, Dz.asI_lst, Dz.asI_tup, Dz.dFJ, Dz.dJs, Dz.dFmt, Dz.Tr.isNil, List.map_cons, List.map_nil, List.length_cons, List.length_nil, List.length_map, List.length_set, List.replicate, Nat.reduceSub, Nat.reduceAdd, List.cons_append, List.nil_append, List.getElem?_cons_zero, List.getElem?_cons_succ, List.set_cons_zero, List.set_cons_succ, if_true, if_false, Bool.false_eq_true, id, Nat.sub_zero, Bool.not_true, Bool.not_false, true_and, and_true, ne_eq, not_false_eq_true, not_true_eq_false, reduceCtorEq, Option.map_some, Option.bind_some, String.reduceBEq, Bool.or_false, Bool.or_true, Bool.false_or, Bool.true_or, Bool.and_true, Bool.and_false, Bool.true_and, Bool.false_and, decide_true, decide_false, List.all_cons, List.all_nil, List.any_cons, List.any_nil, beq_self_eq_true]
    refine ⟨by decide, fun p _ => ?_⟩
    have key : ∃ cs : List Int, (List.map (fun x => match x with | D.int i => D.int (if i < 0 then -i else i) | x => x) (Dz.cutD (ns.map D.int) none (some 61)) ++ (List.replicate (if decide ((ns.length : Int) = 0) = true then (1 : Int) else 0).toNat [D.int 0]).flatten) = cs.map D.int ∧ 0 < cs.length ∧ cs.length ≤ 62 := by
      rw [cut_to (by omega)]
      cases ns with
      | nil => exact ⟨[0], rfl, by decide, by decide⟩
      | cons n ns =>
        refine ⟨((n :: ns).take 61).map fun i => if i < 0 then -i else i, ?_, by simp, by simp; omega⟩
        rw [if_neg (by simp; omega), ← List.map_take, List.map_map, List.map_map]
        simp only [Int.toNat_zero, List.replicate_zero, List.flatten_nil, List.append_nil]
        rfl
    obtain ⟨cs, hcs, hc0, hc1⟩ := key
    have hlen := congrArg List.length hcs
    rw [List.length_append, List.length_map, List.length_map] at hlen
    rw [hcs, hlen]
    refine ⟨by split <;> omega, by split <;> omega, by split <;> omega, by omega, fun a ha => ?_⟩
    refine lc_map (fun x => match x with | .int i => .int (i * (if decide ((10 : Int) ^ 18 ≤ i) = true then 1 else 0)) | x => x) (by simp only [asI, asQ, asL, Mm.put_same]) ?_ (by simp; omega) ?_
    · rintro x hx k B hk
      obtain ⟨i, -, rfl⟩ := List.mem_map.mp hx
      simp only [Dz.dSeq, Dz.dIf, Dz.dB, Dz.dOp, Dz.dUn, Dz.dVar, Dz.dC, Dz.dRet, Dz.dRetN, Dz.dNx, Dz.dBrk, Dz.dCnt, Dz.dAsg, Dz.dSet, Dz.dPar, Dz.dPar3, Dz.dgT, Dz.dgTt, Dz.dgCons, Dz.dgNil, Dz.dgN, Dz.dCall, Dz.dCons, Dz.dNil, Dz.dTup, Dz.dCB, Dz.dCN, Dz.dF, Dz.dM, Dz.dSz, Dz.dExpr, Dz.dNot, Dz.dAnd, Dz.dOr, Dz.dAndV, Dz.dOrV, Dz.dNotV, Dz.dIfE, Dz.dChain, Dz.dFrz, Dz.dIt, Dz.dRng1, Dz.dRng2, Dz.dSl, Dz.dNoPart, Dz.dPart, Dz.dCat, Dz.dRep, Dz.dLc, Dz.dFor, Dz.dAppend, Dz.dPop, Dz.dPopAt, Dz.rPopAtD, Dz.dSetIx, Dz.dYes, Dz.dRev, Dz.asI, Dz.asQ, Dz.asL, Dz.rIsN, Dz.rIs, Dz.rIsNot, Dz.isNon_d, Dz.isNon_non, Dz.isNon_tup, Dz.isNon_lst, Dz.isNon_str, Dz.isNon_int, Dz.isNon_bl, Dz.isNon_ref, Dz.isNon_dic, Dz.isNon_ty, Dz.rAddU, Dz.rSub, Dz.rMod, Dz.rDiv, Dz.rPow, Dz.rLt, Dz.rLe, Dz.rGt, Dz.rGe, Dz.rEq, Dz.rNe, Dz.rEqv, Dz.rInt2, Dz.rMax2, Dz.rMin2, Dz.rI, Dz.rCmp, Dz.rIxU, Dz.rAbs, Dz.rToInt, Dz.rListU, Dz.rSlU, Dz.trk, Dz.rLenU, Dz.rMulU, Dz.rNeg, Dz.startD, Dz.wipeD, Dz.Tr.d, Dz.Sg.put_M, Dz.Sg.put_n, Dz.Sg.put_pv, Dz.Sg.del_M, Dz.Sg.del_n, Dz.Sg.del_pv, Dz.Mm.put_same, Dz.Mm.put_put, Dz.Sg.put_put, Dz.Mm.put_ne, Dz.Mm.del_ne, Dz.rIsi, Dz.tyN, Dz.tyNames, Dz.isiT, Dz.subT, Dz.tyOk, Dz.tyNames, Dz.pyOf, Dz.toPy, Dz.toPys, Dz.Sg.put_mk, Dz.Sg.del_mk, Dz.spend_M, Dz.spend_pv, Dz.spend_n, Dz.spend_spend, Dz.spend_put, Dz.spend_del, Dz.spNext_iff, Dz.asI_lst, Dz.asI_tup, Dz.dFJ, Dz.dJs, Dz.dFmt, Dz.Tr.isNil, List.map_cons, List.map_nil, List.length_cons, List.length_nil, List.length_map, List.length_set, List.replicate, Nat.reduceSub, Nat.reduceAdd, List.cons_append, List.nil_append, List.getElem?_cons_zero, List.getElem?_cons_succ, List.set_cons_zero, List.set_cons_succ, if_true, if_false, Bool.false_eq_true, id, Nat.sub_zero, Bool.not_true, Bool.not_false, true_and, and_true, ne_eq, not_false_eq_true, not_true_eq_false, reduceCtorEq, Option.map_some, Option.bind_some, String.reduceBEq, Bool.or_false, Bool.or_true, Bool.false_or, Bool.true_or, Bool.and_true, Bool.and_false, Bool.true_and, Bool.false_and, decide_true, decide_false, List.all_cons, List.all_nil, List.any_cons, List.any_nil, beq_self_eq_true]
      refine ⟨⟨by decide, by decide, by decide⟩, ?_, hk⟩
      split
      · exact cmul_r (by decide) (by decide)
      · exact cmul_r (by decide) (by decide)
    · intro b hb
      refine ⟨by decide, fun q hq => ?_⟩
      have e : ([] ++ (cs.map D.int).map fun x => match x with | .int i => D.int (i * (if decide ((10 : Int) ^ 18 ≤ i) = true then 1 else 0)) | x => x) = (cs.map fun i => i * (if decide ((10 : Int) ^ 18 ≤ i) = true then 1 else 0)).map D.int := by
        rw [List.nil_append, List.map_map, List.map_map]; rfl
      rw [e] at hq ⊢
      have nab : a ≠ b := fun z => by subst z; simp [Mm.put] at hb
      have nqb : q ≠ b := fun z => by subst z; simp [Mm.put] at hq
      have nqa : q ≠ a := fun z => by subst z; simp [Mm.put, nqb] at hq
      refine ⟨⟨Mm.put (fun _ => none) q (.box DkI), 1000000000000, [a, b]⟩, ?_, hR q _ (by simp [Dk]) rfl⟩
      refine box_close (p := q) (s' := ⟨Mm.put (fun _ => none) q (.box DkI), 1000000000000, [a, b]⟩) (I := DkI) (st := [.inr cs, .inr (cs.map fun i => i * (if decide ((10 : Int) ^ 18 ≤ i) = true then 1 else 0)), .inl 0]) (k := 1000000000000) ⟨_, _, _, rfl, by simp, hc0, by omega, by omega, by decide⟩ (Nat.le_refl _) ?_ ?_ (by simp [nab]) (by simp [nqa, nqb]) rfl (by simp) ?_ ?_
      · simp [Sg.put, Mm.put, rawV]
      · refine ⟨?_, ?_, rfl⟩
        · simp [Sg.put, Mm.put, nqa.symm, nab]
        · simp [Sg.put, Mm.put, nqb.symm]
      · intro c hc
        simp only [List.mem_cons, List.not_mem_nil, or_false] at hc
        rcases hc with rfl | rfl
        · simp [Mm.put, nqa.symm]
        · simp [Mm.put, nqb.symm]
      · intro c o hc hm
        simp [Mm.put, hc] at hm
end Pr
namespace Pr
open PySem PySem.Spec PyProof.Rows L2 Dz
def abc : List Nat := [97, 98, 99, 100, 101, 102, 103, 104, 105, 106, 107, 108, 109, 110, 111, 112, 113, 114, 115, 116, 117, 118, 119, 120, 121, 122]
theorem abc_eq : ("abcdefghijklmnopqrstuvwxyz" : Str).cps.toList = abc := by decide +kernel
theorem abc_len : ("abcdefghijklmnopqrstuvwxyz" : Str).length = 26 := by decide +kernel
def Lt (c : Nat) : Prop := 97 ≤ c ∧ c ≤ 122
theorem abc_lt : ∀ c ∈ abc, Lt c := by unfold Lt abc; decide
def spLetters : SpD := fun ws s R _ => ∃ (p : Addr) (z : Nat), ws = [.ref p, .int z] ∧ Dk s p ∧ z ≤ 26 ∧ 30 ≤ s.n ∧ ∀ ls : List Nat, ls.length = z → (∀ c ∈ ls, Lt c) → R (.lst (ls.map chr)) (spend s 30)
theorem e_law_letters : ∀ ws s R, spLetters ws s R X0 → ws.length = 2 ∧ t_law_letters spNext { nx := fun _ s' => Lw R .non s', rt := Lw R } (Dz.startD N_law_letters ws) s := by
  rintro ws s R ⟨p, z, rfl, hp, hz, hn, hR⟩
  refine ⟨rfl, ?_⟩
  have ch : (fun c => D.str ⟨#[c]⟩) = chr := rfl
  simp only [Dz.dSeq, Dz.dIf, Dz.dB, Dz.dOp, Dz.dUn, Dz.dVar, Dz.dC, Dz.dRet, Dz.dRetN, Dz.dNx, Dz.dBrk, Dz.dCnt, Dz.dAsg, Dz.dSet, Dz.dPar, Dz.dPar3, Dz.dgT, Dz.dgTt, Dz.dgCons, Dz.dgNil, Dz.dgN, Dz.dCall, Dz.dCons, Dz.dNil, Dz.dTup, Dz.dCB, Dz.dCN, Dz.dF, Dz.dM, Dz.dSz, Dz.dExpr, Dz.dNot, Dz.dAnd, Dz.dOr, Dz.dAndV, Dz.dOrV, Dz.dNotV, Dz.dIfE, Dz.dChain, Dz.dFrz, Dz.dIt, Dz.dRng1, Dz.dRng2, Dz.dSl, Dz.dNoPart, Dz.dPart, Dz.dCat, Dz.dRep, Dz.dLc, Dz.dFor, Dz.dAppend, Dz.dPop, Dz.dPopAt, Dz.rPopAtD, Dz.dSetIx, Dz.dYes, Dz.dRev, Dz.asI, Dz.asQ, Dz.asL, Dz.rIsN, Dz.rIs, Dz.rIsNot, Dz.isNon_d, Dz.isNon_non, Dz.isNon_tup, Dz.isNon_lst, Dz.isNon_str, Dz.isNon_int, Dz.isNon_bl, Dz.isNon_ref, Dz.isNon_dic, Dz.isNon_ty, Dz.rAddU, Dz.rSub, Dz.rMod, Dz.rDiv, Dz.rPow, Dz.rLt, Dz.rLe, Dz.rGt, Dz.rGe, Dz.rEq, Dz.rNe, Dz.rEqv, Dz.rInt2, Dz.rMax2, Dz.rMin2, Dz.rI, Dz.rCmp, Dz.rIxU, Dz.rAbs, Dz.rToInt, Dz.rListU, Dz.rSlU, Dz.trk, Dz.rLenU, Dz.rMulU, Dz.rNeg, Dz.startD, Dz.wipeD, Dz.Tr.d, Dz.Sg.put_M, Dz.Sg.put_n, Dz.Sg.put_pv, Dz.Sg.del_M, Dz.Sg.del_n, Dz.Sg.del_pv, Dz.Mm.put_same, Dz.Mm.put_put, Dz.Sg.put_put, Dz.Mm.put_ne, Dz.Mm.del_ne, Dz.rIsi, Dz.tyN, Dz.tyNames, Dz.isiT, Dz.subT, Dz.tyOk, Dz.tyNames, Dz.pyOf, Dz.toPy, Dz.toPys, Dz.Sg.put_mk, Dz.Sg.del_mk, Dz.spend_M, Dz.spend_pv, Dz.spend_n, Dz.spend_spend, Dz.spend_put, Dz.spend_del, Dz.spNext_iff, Dz.asI_lst, Dz.asI_tup, Dz.dFJ, Dz.dJs, Dz.dFmt, Dz.Tr.isNil, List.map_cons, List.map_nil, List.length_cons, List.length_nil, List.length_map, List.length_set, List.replicate, Nat.reduceSub, Nat.reduceAdd, List.cons_append, List.nil_append, List.getElem?_cons_zero, List.getElem?_cons_succ, List.set_cons_zero, List.set_cons_succ, if_true, if_false, Bool.false_eq_true, id, Nat.sub_zero, Bool.not_true, Bool.not_false, true_and, and_true, ne_eq, not_false_eq_true, not_true_eq_false, reduceCtorEq, Option.map_some, Option.bind_some, String.reduceBEq, Bool.or_false, Bool.or_true, Bool.false_or, Bool.true_or, Bool.and_true, Bool.and_false, Bool.true_and, Bool.false_and, decide_true, decide_false, List.all_cons, List.all_nil, List.any_cons, List.any_nil, beq_self_eq_true, t_law_letters, abc_eq, abc_len, ch]
  refine ⟨hp, by decide, by decide, by omega, fun r r0 r1 => ⟨by decide, fun a ha => ⟨by decide, ?_⟩⟩⟩
  have npa : p ≠ a := hp.neN ha
  have o1 : Ov s ((spend s 1).put a (.lst (abc.map chr))) 1 := by simpa using ((Ov.refl s).spend (k := 1)).put ha
  have hz1 : (z : Int).toNat = z := by omega
  split
  · refine ⟨o1.dk hp, by decide, by decide, by omega, fun i i0 i1 => ?_⟩
    obtain ⟨c, e1, e2, e3⟩ := atI_map (f := chr) (xs := abc) (i := i) i0 i1
    rw [e3]
    refine ⟨by decide, fun q hq => ⟨by omega, by omega, by omega, ?_⟩⟩
    have hq1 : s.M q = none := o1.none hq
    refine ((((Ov.refl s).spend (k := 2)).put ha).put hq1 |>.del hq1).lw (k := 30) (by omega) ?_
    rw [hz1, show (List.replicate z [chr c]).flatten = (List.replicate z c).map chr by rw [List.map_replicate, List.flatten_replicate_singleton]]
    exact hR _ (by simp) fun x hx => by
      rw [(List.mem_replicate.mp hx).2]
      exact abc_lt c e2
  · split
    · refine ⟨by omega, by omega, ?_⟩
      rw [hz1, show (spend s 1).put a (MO.lst (abc.map chr)) = spend (s.put a (MO.lst (abc.map chr))) 1 from rfl]
      refine lc_draw 1 (fun y => ∃ c, y = chr c ∧ Lt c) rfl (fun _ => rfl) ?_ (by simp [rg_len]; omega) ?_
      · rintro x hx k B t ht hk
        obtain ⟨j, hj, rfl⟩ := rg_mem hx
        rw [rg_len] at ht
        simp only [Dz.dSeq, Dz.dIf, Dz.dB, Dz.dOp, Dz.dUn, Dz.dVar, Dz.dC, Dz.dRet, Dz.dRetN, Dz.dNx, Dz.dBrk, Dz.dCnt, Dz.dAsg, Dz.dSet, Dz.dPar, Dz.dPar3, Dz.dgT, Dz.dgTt, Dz.dgCons, Dz.dgNil, Dz.dgN, Dz.dCall, Dz.dCons, Dz.dNil, Dz.dTup, Dz.dCB, Dz.dCN, Dz.dF, Dz.dM, Dz.dSz, Dz.dExpr, Dz.dNot, Dz.dAnd, Dz.dOr, Dz.dAndV, Dz.dOrV, Dz.dNotV, Dz.dIfE, Dz.dChain, Dz.dFrz, Dz.dIt, Dz.dRng1, Dz.dRng2, Dz.dSl, Dz.dNoPart, Dz.dPart, Dz.dCat, Dz.dRep, Dz.dLc, Dz.dFor, Dz.dAppend, Dz.dPop, Dz.dPopAt, Dz.rPopAtD, Dz.dSetIx, Dz.dYes, Dz.dRev, Dz.asI, Dz.asQ, Dz.asL, Dz.rIsN, Dz.rIs, Dz.rIsNot, Dz.isNon_d, Dz.isNon_non, Dz.isNon_tup, Dz.isNon_lst, Dz.isNon_str, Dz.isNon_int, Dz.isNon_bl, Dz.isNon_ref, Dz.isNon_dic, Dz.isNon_ty, Dz.rAddU, Dz.rSub, Dz.rMod, Dz.rDiv, Dz.rPow, Dz.rLt, Dz.rLe, Dz.rGt, Dz.rGe, Dz.rEq, Dz.rNe, Dz.rEqv, Dz.rInt2, Dz.rMax2, Dz.rMin2, Dz.rI, Dz.rCmp, Dz.rIxU, Dz.rAbs, Dz.rToInt, Dz.rListU, Dz.rSlU, Dz.trk, Dz.rLenU, Dz.rMulU, Dz.rNeg, Dz.startD, Dz.wipeD, Dz.Tr.d, Dz.Sg.put_M, Dz.Sg.put_n, Dz.Sg.put_pv, Dz.Sg.del_M, Dz.Sg.del_n, Dz.Sg.del_pv, Dz.Mm.put_same, Dz.Mm.put_put, Dz.Sg.put_put, Dz.Mm.put_ne, Dz.Mm.del_ne, Dz.rIsi, Dz.tyN, Dz.tyNames, Dz.isiT, Dz.subT, Dz.tyOk, Dz.tyNames, Dz.pyOf, Dz.toPy, Dz.toPys, Dz.Sg.put_mk, Dz.Sg.del_mk, Dz.spend_M, Dz.spend_pv, Dz.spend_n, Dz.spend_spend, Dz.spend_put, Dz.spend_del, Dz.spNext_iff, Dz.asI_lst, Dz.asI_tup, Dz.dFJ, Dz.dJs, Dz.dFmt, Dz.Tr.isNil, List.map_cons, List.map_nil, List.length_cons, List.length_nil, List.length_map, List.length_set, List.replicate, Nat.reduceSub, Nat.reduceAdd, List.cons_append, List.nil_append, List.getElem?_cons_zero, List.getElem?_cons_succ, List.set_cons_zero, List.set_cons_succ, if_true, if_false, Bool.false_eq_true, id, Nat.sub_zero, Bool.not_true, Bool.not_false, true_and, and_true, ne_eq, not_false_eq_true, not_true_eq_false, reduceCtorEq, Option.map_some, Option.bind_some, String.reduceBEq, Bool.or_false, Bool.or_true, Bool.false_or, Bool.true_or, Bool.and_true, Bool.and_false, Bool.true_and, Bool.false_and, decide_true, decide_false, List.all_cons, List.all_nil, List.any_cons, List.any_nil, beq_self_eq_true]
        refine ⟨Dk.put hp npa, by decide, by decide, by omega, fun i i0 i1 => ?_⟩
        obtain ⟨c, e1, e2, e3⟩ := atI_map (f := chr) (xs := abc) (i := i) i0 (by have : (abc.length : Int) = 26 := rfl; omega)
        rw [e3]
        exact hk (chr c) ⟨c, rfl, abc_lt c e2⟩
      · intro ys hy1 hy2
        rw [rg_len] at hy1
        have : ∃ ls : List Nat, ys = ls.map chr ∧ ∀ c ∈ ls, Lt c := by
          clear hy1
          induction ys with
          | nil => exact ⟨[], rfl, fun _ h => nomatch h⟩
          | cons y ys ih =>
            obtain ⟨ls, e, h⟩ := ih fun y hy => hy2 y (List.mem_cons_of_mem _ hy)
            obtain ⟨c, rfl, hc⟩ := hy2 y List.mem_cons_self
            refine ⟨c :: ls, by rw [e]; rfl, fun x hx => ?_⟩
            rcases List.mem_cons.mp hx with rfl | hx
            · exact hc
            · exact h x hx
        obtain ⟨ls, rfl, hls⟩ := this
        rw [List.length_map] at hy1
        rw [rg_len, List.nil_append]
        exact (((Ov.refl s).put ha).spend (k := 1 + 1 * z)).lw (by omega) (hR ls hy1 hls)
    · refine ⟨by decide, fun b hb => ?_⟩
      have hb1 : s.M b = none := o1.none hb
      have nab : a ≠ b := fun e => by subst e; simp at hb
      have npb : p ≠ b := hp.neN hb1
      refine ⟨z + 1, ?_⟩
      suffices h : ∀ (k : Nat) (so fo : List Nat) (s' : Sg), fo.length + k = z → fo.length + so.length = 26 → (∀ c ∈ so, Lt c) → (∀ c ∈ fo, Lt c) → Ov s s' (1 + fo.length) → s'.M a = some (.lst (so.map chr)) → s'.M b = some (.lst (fo.map chr)) →
          dWhileN (dB (dOp rLt (dCB rLenU (dCons (dVar 4) dNil)) (dVar 1))) (dExpr (dAppend (dVar 4) (dPopAt (dVar 3) (dCall spNext (dCons (dVar 0) (dCons (dCB rLenU (dCons (dVar 3) dNil)) dNil))))))
            { nx := dRet (dIfE (dB (dOp rEq (dVar 2) (dC (.int 0)))) (dFrz (dVar 4)) (dF (dCN rSortS (dCons (dVar 4) dNil)))) { nx := fun x s' => Lw R .non s', rt := Lw R }, rt := Lw R } (k + 1) [some (.ref p), some (.int z), some (.int r), some (.ref a), some (.ref b), none] s' by
        refine h z abc [] _ (by simp) rfl abc_lt (fun _ h => nomatch h) ?_ ?_ ?_
        · simpa using o1.put hb1
        · simp [Mm.put, nab]
        · simp [Mm.put]
      intro k
      induction k with
      | zero =>
        intro so fo s' h1 h2 h3 h4 ov ma mb
        simp only [Dz.dSeq, Dz.dIf, Dz.dB, Dz.dOp, Dz.dUn, Dz.dVar, Dz.dC, Dz.dRet, Dz.dRetN, Dz.dNx, Dz.dBrk, Dz.dCnt, Dz.dAsg, Dz.dSet, Dz.dPar, Dz.dPar3, Dz.dgT, Dz.dgTt, Dz.dgCons, Dz.dgNil, Dz.dgN, Dz.dCall, Dz.dCons, Dz.dNil, Dz.dTup, Dz.dCB, Dz.dCN, Dz.dF, Dz.dM, Dz.dSz, Dz.dExpr, Dz.dNot, Dz.dAnd, Dz.dOr, Dz.dAndV, Dz.dOrV, Dz.dNotV, Dz.dIfE, Dz.dChain, Dz.dFrz, Dz.dIt, Dz.dRng1, Dz.dRng2, Dz.dSl, Dz.dNoPart, Dz.dPart, Dz.dCat, Dz.dRep, Dz.dLc, Dz.dFor, Dz.dAppend, Dz.dPop, Dz.dPopAt, Dz.rPopAtD, Dz.dSetIx, Dz.dYes, Dz.dRev, Dz.asI, Dz.asQ, Dz.asL, Dz.rIsN, Dz.rIs, Dz.rIsNot, Dz.isNon_d, Dz.isNon_non, Dz.isNon_tup, Dz.isNon_lst, Dz.isNon_str, Dz.isNon_int, Dz.isNon_bl, Dz.isNon_ref, Dz.isNon_dic, Dz.isNon_ty, Dz.rAddU, Dz.rSub, Dz.rMod, Dz.rDiv, Dz.rPow, Dz.rLt, Dz.rLe, Dz.rGt, Dz.rGe, Dz.rEq, Dz.rNe, Dz.rEqv, Dz.rInt2, Dz.rMax2, Dz.rMin2, Dz.rI, Dz.rCmp, Dz.rIxU, Dz.rAbs, Dz.rToInt, Dz.rListU, Dz.rSlU, Dz.trk, Dz.rLenU, Dz.rMulU, Dz.rNeg, Dz.startD, Dz.wipeD, Dz.Tr.d, Dz.Sg.put_M, Dz.Sg.put_n, Dz.Sg.put_pv, Dz.Sg.del_M, Dz.Sg.del_n, Dz.Sg.del_pv, Dz.Mm.put_same, Dz.Mm.put_put, Dz.Sg.put_put, Dz.Mm.put_ne, Dz.Mm.del_ne, Dz.rIsi, Dz.tyN, Dz.tyNames, Dz.isiT, Dz.subT, Dz.tyOk, Dz.tyNames, Dz.pyOf, Dz.toPy, Dz.toPys, Dz.Sg.put_mk, Dz.Sg.del_mk, Dz.spend_M, Dz.spend_pv, Dz.spend_n, Dz.spend_spend, Dz.spend_put, Dz.spend_del, Dz.spNext_iff, Dz.asI_lst, Dz.asI_tup, Dz.dFJ, Dz.dJs, Dz.dFmt, Dz.Tr.isNil, List.map_cons, List.map_nil, List.length_cons, List.length_nil, List.length_map, List.length_set, List.replicate, Nat.reduceSub, Nat.reduceAdd, List.cons_append, List.nil_append, List.getElem?_cons_zero, List.getElem?_cons_succ, List.set_cons_zero, List.set_cons_succ, if_true, if_false, Bool.false_eq_true, id, Nat.sub_zero, Bool.not_true, Bool.not_false, true_and, and_true, ne_eq, not_false_eq_true, not_true_eq_false, reduceCtorEq, Option.map_some, Option.bind_some, String.reduceBEq, Bool.or_false, Bool.or_true, Bool.false_or, Bool.true_or, Bool.and_true, Bool.and_false, Bool.true_and, Bool.false_and, decide_true, decide_false, List.all_cons, List.all_nil, List.any_cons, List.any_nil, beq_self_eq_true, dWhileN, mb, List.length_map]
        have e : ¬ (decide ((fo.length : Int) < (z : Int)) = true) := by rw [decide_eq_true_eq]; omega
        rw [if_neg e]
        split
        · exact (ov.del hb1).lw (by omega) (hR fo (by omega) h4)
        · refine ⟨.ref b, fo.map (fun c => ⟨#[c]⟩), rfl, ?_, by simp; omega, fun ys pm _ => ?_⟩
          · simp only [Dz.dSeq, Dz.dIf, Dz.dB, Dz.dOp, Dz.dUn, Dz.dVar, Dz.dC, Dz.dRet, Dz.dRetN, Dz.dNx, Dz.dBrk, Dz.dCnt, Dz.dAsg, Dz.dSet, Dz.dPar, Dz.dPar3, Dz.dgT, Dz.dgTt, Dz.dgCons, Dz.dgNil, Dz.dgN, Dz.dCall, Dz.dCons, Dz.dNil, Dz.dTup, Dz.dCB, Dz.dCN, Dz.dF, Dz.dM, Dz.dSz, Dz.dExpr, Dz.dNot, Dz.dAnd, Dz.dOr, Dz.dAndV, Dz.dOrV, Dz.dNotV, Dz.dIfE, Dz.dChain, Dz.dFrz, Dz.dIt, Dz.dRng1, Dz.dRng2, Dz.dSl, Dz.dNoPart, Dz.dPart, Dz.dCat, Dz.dRep, Dz.dLc, Dz.dFor, Dz.dAppend, Dz.dPop, Dz.dPopAt, Dz.rPopAtD, Dz.dSetIx, Dz.dYes, Dz.dRev, Dz.asI, Dz.asQ, Dz.asL, Dz.rIsN, Dz.rIs, Dz.rIsNot, Dz.isNon_d, Dz.isNon_non, Dz.isNon_tup, Dz.isNon_lst, Dz.isNon_str, Dz.isNon_int, Dz.isNon_bl, Dz.isNon_ref, Dz.isNon_dic, Dz.isNon_ty, Dz.rAddU, Dz.rSub, Dz.rMod, Dz.rDiv, Dz.rPow, Dz.rLt, Dz.rLe, Dz.rGt, Dz.rGe, Dz.rEq, Dz.rNe, Dz.rEqv, Dz.rInt2, Dz.rMax2, Dz.rMin2, Dz.rI, Dz.rCmp, Dz.rIxU, Dz.rAbs, Dz.rToInt, Dz.rListU, Dz.rSlU, Dz.trk, Dz.rLenU, Dz.rMulU, Dz.rNeg, Dz.startD, Dz.wipeD, Dz.Tr.d, Dz.Sg.put_M, Dz.Sg.put_n, Dz.Sg.put_pv, Dz.Sg.del_M, Dz.Sg.del_n, Dz.Sg.del_pv, Dz.Mm.put_same, Dz.Mm.put_put, Dz.Sg.put_put, Dz.Mm.put_ne, Dz.Mm.del_ne, Dz.rIsi, Dz.tyN, Dz.tyNames, Dz.isiT, Dz.subT, Dz.tyOk, Dz.tyNames, Dz.pyOf, Dz.toPy, Dz.toPys, Dz.Sg.put_mk, Dz.Sg.del_mk, Dz.spend_M, Dz.spend_pv, Dz.spend_n, Dz.spend_spend, Dz.spend_put, Dz.spend_del, Dz.spNext_iff, Dz.asI_lst, Dz.asI_tup, Dz.dFJ, Dz.dJs, Dz.dFmt, Dz.Tr.isNil, List.map_cons, List.map_nil, List.length_cons, List.length_nil, List.length_map, List.length_set, List.replicate, Nat.reduceSub, Nat.reduceAdd, List.cons_append, List.nil_append, List.getElem?_cons_zero, List.getElem?_cons_succ, List.set_cons_zero, List.set_cons_succ, if_true, if_false, Bool.false_eq_true, id, Nat.sub_zero, Bool.not_true, Bool.not_false, true_and, and_true, ne_eq, not_false_eq_true, not_true_eq_false, reduceCtorEq, Option.map_some, Option.bind_some, String.reduceBEq, Bool.or_false, Bool.or_true, Bool.false_or, Bool.true_or, Bool.and_true, Bool.and_false, Bool.true_and, Bool.false_and, decide_true, decide_false, List.all_cons, List.all_nil, List.any_cons, List.any_nil, beq_self_eq_true, mb, List.map_map]; rfl
          · have key : ∃ ls : List Nat, ys.map D.str = ls.map chr ∧ ls.length = fo.length ∧ ∀ c ∈ ls, Lt c := by
              refine ⟨ys.map fun y => y.cps.toList.headD 0, ?_, by simpa using pm.length_eq, ?_⟩
              · rw [List.map_map]
                apply List.map_congr_left
                intro y hy
                obtain ⟨c, -, rfl⟩ := List.mem_map.mp (pm.mem_iff.mp hy)
                rfl
              · intro c hc
                obtain ⟨y, hy, rfl⟩ := List.mem_map.mp hc
                obtain ⟨c', hc', rfl⟩ := List.mem_map.mp (pm.mem_iff.mp hy)
                exact h4 c' hc'
            obtain ⟨ls, e1, e2, e3⟩ := key
            rw [e1]
            exact ov.lw (by omega) (hR ls (by omega) e3)
      | succ k ih =>
        intro so fo s' h1 h2 h3 h4 ov ma mb
        unfold dWhileN
        simp only [Dz.dSeq, Dz.dIf, Dz.dB, Dz.dOp, Dz.dUn, Dz.dVar, Dz.dC, Dz.dRet, Dz.dRetN, Dz.dNx, Dz.dBrk, Dz.dCnt, Dz.dAsg, Dz.dSet, Dz.dPar, Dz.dPar3, Dz.dgT, Dz.dgTt, Dz.dgCons, Dz.dgNil, Dz.dgN, Dz.dCall, Dz.dCons, Dz.dNil, Dz.dTup, Dz.dCB, Dz.dCN, Dz.dF, Dz.dM, Dz.dSz, Dz.dExpr, Dz.dNot, Dz.dAnd, Dz.dOr, Dz.dAndV, Dz.dOrV, Dz.dNotV, Dz.dIfE, Dz.dChain, Dz.dFrz, Dz.dIt, Dz.dRng1, Dz.dRng2, Dz.dSl, Dz.dNoPart, Dz.dPart, Dz.dCat, Dz.dRep, Dz.dLc, Dz.dFor, Dz.dAppend, Dz.dPop, Dz.dPopAt, Dz.rPopAtD, Dz.dSetIx, Dz.dYes, Dz.dRev, Dz.asI, Dz.asQ, Dz.asL, Dz.rIsN, Dz.rIs, Dz.rIsNot, Dz.isNon_d, Dz.isNon_non, Dz.isNon_tup, Dz.isNon_lst, Dz.isNon_str, Dz.isNon_int, Dz.isNon_bl, Dz.isNon_ref, Dz.isNon_dic, Dz.isNon_ty, Dz.rAddU, Dz.rSub, Dz.rMod, Dz.rDiv, Dz.rPow, Dz.rLt, Dz.rLe, Dz.rGt, Dz.rGe, Dz.rEq, Dz.rNe, Dz.rEqv, Dz.rInt2, Dz.rMax2, Dz.rMin2, Dz.rI, Dz.rCmp, Dz.rIxU, Dz.rAbs, Dz.rToInt, Dz.rListU, Dz.rSlU, Dz.trk, Dz.rLenU, Dz.rMulU, Dz.rNeg, Dz.startD, Dz.wipeD, Dz.Tr.d, Dz.Sg.put_M, Dz.Sg.put_n, Dz.Sg.put_pv, Dz.Sg.del_M, Dz.Sg.del_n, Dz.Sg.del_pv, Dz.Mm.put_same, Dz.Mm.put_put, Dz.Sg.put_put, Dz.Mm.put_ne, Dz.Mm.del_ne, Dz.rIsi, Dz.tyN, Dz.tyNames, Dz.isiT, Dz.subT, Dz.tyOk, Dz.tyNames, Dz.pyOf, Dz.toPy, Dz.toPys, Dz.Sg.put_mk, Dz.Sg.del_mk, Dz.spend_M, Dz.spend_pv, Dz.spend_n, Dz.spend_spend, Dz.spend_put, Dz.spend_del, Dz.spNext_iff, Dz.asI_lst, Dz.asI_tup, Dz.dFJ, Dz.dJs, Dz.dFmt, Dz.Tr.isNil, List.map_cons, List.map_nil, List.length_cons, List.length_nil, List.length_map, List.length_set, List.replicate, Nat.reduceSub, Nat.reduceAdd, List.cons_append, List.nil_append, List.getElem?_cons_zero, List.getElem?_cons_succ, List.set_cons_zero, List.set_cons_succ, if_true, if_false, Bool.false_eq_true, id, Nat.sub_zero, Bool.not_true, Bool.not_false, true_and, and_true, ne_eq, not_false_eq_true, not_true_eq_false, reduceCtorEq, Option.map_some, Option.bind_some, String.reduceBEq, Bool.or_false, Bool.or_true, Bool.false_or, Bool.true_or, Bool.and_true, Bool.and_false, Bool.true_and, Bool.false_and, decide_true, decide_false, List.all_cons, List.all_nil, List.any_cons, List.any_nil, beq_self_eq_true, mb, ma, List.length_map]
        have e : decide ((fo.length : Int) < (z : Int)) = true := by rw [decide_eq_true_eq]; omega
        rw [if_pos e]
        refine ⟨ov.dk hp, by omega, by omega, by have := ov.n; omega, fun i i0 i1 => ⟨by omega, ?_⟩⟩
        rw [ixN_nat i0 i1]
        have hi : i.toNat < so.length := by omega
        have e3 : (so.map chr)[i.toNat]? = some (chr so[i.toNat]) := by simp [hi]
        dsimp only
        rw [e3]
        simp only [Dz.dSeq, Dz.dIf, Dz.dB, Dz.dOp, Dz.dUn, Dz.dVar, Dz.dC, Dz.dRet, Dz.dRetN, Dz.dNx, Dz.dBrk, Dz.dCnt, Dz.dAsg, Dz.dSet, Dz.dPar, Dz.dPar3, Dz.dgT, Dz.dgTt, Dz.dgCons, Dz.dgNil, Dz.dgN, Dz.dCall, Dz.dCons, Dz.dNil, Dz.dTup, Dz.dCB, Dz.dCN, Dz.dF, Dz.dM, Dz.dSz, Dz.dExpr, Dz.dNot, Dz.dAnd, Dz.dOr, Dz.dAndV, Dz.dOrV, Dz.dNotV, Dz.dIfE, Dz.dChain, Dz.dFrz, Dz.dIt, Dz.dRng1, Dz.dRng2, Dz.dSl, Dz.dNoPart, Dz.dPart, Dz.dCat, Dz.dRep, Dz.dLc, Dz.dFor, Dz.dAppend, Dz.dPop, Dz.dPopAt, Dz.rPopAtD, Dz.dSetIx, Dz.dYes, Dz.dRev, Dz.asI, Dz.asQ, Dz.asL, Dz.rIsN, Dz.rIs, Dz.rIsNot, Dz.isNon_d, Dz.isNon_non, Dz.isNon_tup, Dz.isNon_lst, Dz.isNon_str, Dz.isNon_int, Dz.isNon_bl, Dz.isNon_ref, Dz.isNon_dic, Dz.isNon_ty, Dz.rAddU, Dz.rSub, Dz.rMod, Dz.rDiv, Dz.rPow, Dz.rLt, Dz.rLe, Dz.rGt, Dz.rGe, Dz.rEq, Dz.rNe, Dz.rEqv, Dz.rInt2, Dz.rMax2, Dz.rMin2, Dz.rI, Dz.rCmp, Dz.rIxU, Dz.rAbs, Dz.rToInt, Dz.rListU, Dz.rSlU, Dz.trk, Dz.rLenU, Dz.rMulU, Dz.rNeg, Dz.startD, Dz.wipeD, Dz.Tr.d, Dz.Sg.put_M, Dz.Sg.put_n, Dz.Sg.put_pv, Dz.Sg.del_M, Dz.Sg.del_n, Dz.Sg.del_pv, Dz.Mm.put_same, Dz.Mm.put_put, Dz.Sg.put_put, Dz.Mm.put_ne, Dz.Mm.del_ne, Dz.rIsi, Dz.tyN, Dz.tyNames, Dz.isiT, Dz.subT, Dz.tyOk, Dz.tyNames, Dz.pyOf, Dz.toPy, Dz.toPys, Dz.Sg.put_mk, Dz.Sg.del_mk, Dz.spend_M, Dz.spend_pv, Dz.spend_n, Dz.spend_spend, Dz.spend_put, Dz.spend_del, Dz.spNext_iff, Dz.asI_lst, Dz.asI_tup, Dz.dFJ, Dz.dJs, Dz.dFmt, Dz.Tr.isNil, List.map_cons, List.map_nil, List.length_cons, List.length_nil, List.length_map, List.length_set, List.replicate, Nat.reduceSub, Nat.reduceAdd, List.cons_append, List.nil_append, List.getElem?_cons_zero, List.getElem?_cons_succ, List.set_cons_zero, List.set_cons_succ, if_true, if_false, Bool.false_eq_true, id, Nat.sub_zero, Bool.not_true, Bool.not_false, true_and, and_true, ne_eq, not_false_eq_true, not_true_eq_false, reduceCtorEq, Option.map_some, Option.bind_some, String.reduceBEq, Bool.or_false, Bool.or_true, Bool.false_or, Bool.true_or, Bool.and_true, Bool.and_false, Bool.true_and, Bool.false_and, decide_true, decide_false, List.all_cons, List.all_nil, List.any_cons, List.any_nil, beq_self_eq_true, mb, ma, nab.symm, List.length_map]
        refine ⟨by omega, ih (so.eraseIdx i.toNat) (fo ++ [so[i.toNat]]) _ (by simp; omega) (by simp [List.length_eraseIdx, hi]; omega) (fun c hc => h3 c (List.mem_of_mem_eraseIdx hc)) ?_ ?_ ?_ ?_⟩
        · intro c hc
          rcases List.mem_append.mp hc with hc | hc
          · exact h4 c hc
          · rw [List.mem_singleton.mp hc]; exact h3 _ (List.getElem_mem _)
        · have := ((ov.spend (k := 1)).put (o := .lst ((so.map chr).eraseIdx i.toNat)) ha).put (o := .lst (fo.map chr ++ [chr so[i.toNat]])) hb1
          exact this.mono (by simp; omega)
        · simp only [Sg.put_M, Mm.put_ne nab, Mm.put_same, map_erase]
        · simp [Mm.put]
end Pr
namespace Pr
open PySem PySem.Spec PyProof.Rows L2 Dz
def ino : Tr → List Nat
  | .nil => []
  | .node l a r => ino l ++ a :: ino r
theorem ino_len : ∀ t : Tr, (ino t).length = t.size
  | .nil => rfl
  | .node l a r => by simp only [ino, Tr.size, List.length_append, List.length_cons, ino_len l, ino_len r]; omega
theorem ino_all {p : Nat → Prop} : ∀ {t : Tr}, (∀ c ∈ ino t, p c) → t.all p
  | .nil, _ => trivial
  | .node l a r, h => ⟨ino_all fun c hc => h c (List.mem_append_left _ hc), h a (List.mem_append_right _ List.mem_cons_self), ino_all fun c hc => h c (List.mem_append_right _ (List.mem_cons_of_mem _ hc))⟩
theorem chrs_inj : ∀ {a b : List Nat}, a.map chr = b.map chr → a = b
  | [], [], _ => rfl
  | [], _ :: _, h => by simp at h
  | _ :: _, [], h => by simp at h
  | x :: a, y :: b, h => by
    simp only [List.map_cons, List.cons.injEq] at h
    rw [chr_inj h.1, chrs_inj h.2]
def spGrown (n : Nat) : SpD := fun ws s R _ => ∃ (p : Addr) (z way : Int) (ls : List Nat), ws = [.ref p, .int z, .int way, .lst (ls.map chr)] ∧ Dk s p ∧ 0 ≤ way ∧ way ≤ 4 ∧ z = ls.length ∧ ls.length < n ∧ ls.length ≤ s.n ∧ ls.length < 10000 ∧ ∀ t : Tr, ino t = ls → R t.d (spend s ls.length)
theorem spGrown_iff {n : Nat} {p : Addr} {z way : Int} {ls : List Nat} {s : Sg} {R : KD} {E : XD} : spGrown n [.ref p, .int z, .int way, .lst (ls.map chr)] s R E ↔ Dk s p ∧ 0 ≤ way ∧ way ≤ 4 ∧ z = ls.length ∧ ls.length < n ∧ ls.length ≤ s.n ∧ ls.length < 10000 ∧ ∀ t : Tr, ino t = ls → R t.d (spend s ls.length) := by
  constructor
  · rintro ⟨p', z', w', ls', e, h⟩
    simp only [List.cons.injEq, D.ref.injEq, D.int.injEq, D.lst.injEq, and_true] at e
    obtain ⟨rfl, rfl, rfl, e⟩ := e
    rw [chrs_inj e]
    exact h
  · exact fun h => ⟨p, z, way, ls, rfl, h⟩
theorem e_law_grown (n : Nat) : ∀ ws s R, spGrown (n + 1) ws s R X0 → ws.length = 4 ∧ t_law_grown spNext (spGrown n) { nx := fun _ s' => Lw R .non s', rt := Lw R } (Dz.startD N_law_grown ws) s := by
  rintro ws s R ⟨p, z, way, ls, rfl, hp, hw0, hw1, rfl, hn, hsn, hk, hR⟩
  refine ⟨rfl, ?_⟩
  simp only [Dz.dSeq, Dz.dIf, Dz.dB, Dz.dOp, Dz.dUn, Dz.dVar, Dz.dC, Dz.dRet, Dz.dRetN, Dz.dNx, Dz.dBrk, Dz.dCnt, Dz.dAsg, Dz.dSet, Dz.dPar, Dz.dPar3, Dz.dgT, Dz.dgTt, Dz.dgCons, Dz.dgNil, Dz.dgN, Dz.dCall, Dz.dCons, Dz.dNil, Dz.dTup, Dz.dCB, Dz.dCN, Dz.dF, Dz.dM, Dz.dSz, Dz.dExpr, Dz.dNot, Dz.dAnd, Dz.dOr, Dz.dAndV, Dz.dOrV, Dz.dNotV, Dz.dIfE, Dz.dChain, Dz.dFrz, Dz.dIt, Dz.dRng1, Dz.dRng2, Dz.dSl, Dz.dNoPart, Dz.dPart, Dz.dCat, Dz.dRep, Dz.dLc, Dz.dFor, Dz.dAppend, Dz.dPop, Dz.dPopAt, Dz.rPopAtD, Dz.dSetIx, Dz.dYes, Dz.dRev, Dz.asI, Dz.asQ, Dz.asL, Dz.rIsN, Dz.rIs, Dz.rIsNot, Dz.isNon_d, Dz.isNon_non, Dz.isNon_tup, Dz.isNon_lst, Dz.isNon_str, Dz.isNon_int, Dz.isNon_bl, Dz.isNon_ref, Dz.isNon_dic, Dz.isNon_ty, Dz.rAddU, Dz.rSub, Dz.rMod, Dz.rDiv, Dz.rPow, Dz.rLt, Dz.rLe, Dz.rGt, Dz.rGe, Dz.rEq, Dz.rNe, Dz.rEqv, Dz.rInt2, Dz.rMax2, Dz.rMin2, Dz.rI, Dz.rCmp, Dz.rIxU, Dz.rAbs, Dz.rToInt, Dz.rListU, Dz.rSlU, Dz.trk, Dz.rLenU, Dz.rMulU, Dz.rNeg, Dz.startD, Dz.wipeD, Dz.Tr.d, Dz.Sg.put_M, Dz.Sg.put_n, Dz.Sg.put_pv, Dz.Sg.del_M, Dz.Sg.del_n, Dz.Sg.del_pv, Dz.Mm.put_same, Dz.Mm.put_put, Dz.Sg.put_put, Dz.Mm.put_ne, Dz.Mm.del_ne, Dz.rIsi, Dz.tyN, Dz.tyNames, Dz.isiT, Dz.subT, Dz.tyOk, Dz.tyNames, Dz.pyOf, Dz.toPy, Dz.toPys, Dz.Sg.put_mk, Dz.Sg.del_mk, Dz.spend_M, Dz.spend_pv, Dz.spend_n, Dz.spend_spend, Dz.spend_put, Dz.spend_del, Dz.spNext_iff, Dz.asI_lst, Dz.asI_tup, Dz.dFJ, Dz.dJs, Dz.dFmt, Dz.Tr.isNil, List.map_cons, List.map_nil, List.length_cons, List.length_nil, List.length_map, List.length_set, List.replicate, Nat.reduceSub, Nat.reduceAdd, List.cons_append, List.nil_append, List.getElem?_cons_zero, List.getElem?_cons_succ, List.set_cons_zero, List.set_cons_succ, if_true, if_false, Bool.false_eq_true, id, Nat.sub_zero, Bool.not_true, Bool.not_false, true_and, and_true, ne_eq, not_false_eq_true, not_true_eq_false, reduceCtorEq, Option.map_some, Option.bind_some, String.reduceBEq, Bool.or_false, Bool.or_true, Bool.false_or, Bool.true_or, Bool.and_true, Bool.and_false, Bool.true_and, Bool.false_and, decide_true, decide_false, List.all_cons, List.all_nil, List.any_cons, List.any_nil, beq_self_eq_true, t_law_grown]
  split
  · rename_i h
    have e : ls = [] := by cases ls with
      | nil => rfl
      | cons _ _ => simp at h; omega
    subst e
    exact .of (hR .nil rfl)
  · rename_i h
    have hl : 0 < ls.length := by
      cases ls with
      | nil => exact absurd rfl h
      | cons _ _ => simp
    refine ⟨hp, by omega, by omega, by omega, fun r r0 r1 => ?_⟩
    have key : ∃ m : Nat, L2.atI [D.int r, D.int ((ls.length : Int) - 1), D.int 0, D.int (((ls.length : Int) - 1) * ((ls.length : Int) % 2)), D.int (((ls.length : Int) - 1) / 2)] way = some (.int m) ∧ m < ls.length := by
      have : way = 0 ∨ way = 1 ∨ way = 2 ∨ way = 3 ∨ way = 4 := by omega
      rcases this with rfl | rfl | rfl | rfl | rfl
      · exact ⟨r.toNat, by rw [show ((r.toNat : Nat) : Int) = r by omega]; rfl, by omega⟩
      · exact ⟨ls.length - 1, by rw [show ((ls.length - 1 : Nat) : Int) = (ls.length : Int) - 1 by omega]; rfl, by omega⟩
      · exact ⟨0, rfl, hl⟩
      · refine ⟨(ls.length - 1) * (ls.length % 2), ?_, ?_⟩
        · rw [show (((ls.length - 1) * (ls.length % 2) : Nat) : Int) = ((ls.length : Int) - 1) * ((ls.length : Int) % 2) by
            rw [Int.natCast_mul, Int.natCast_emod, show ((ls.length - 1 : Nat) : Int) = (ls.length : Int) - 1 by omega]; rfl]
          rfl
        · have : ls.length % 2 = 0 ∨ ls.length % 2 = 1 := by omega
          rcases this with e | e <;> rw [e] <;> omega
      · refine ⟨(ls.length - 1) / 2, ?_, by omega⟩
        rw [show (((ls.length - 1) / 2 : Nat) : Int) = ((ls.length : Int) - 1) / 2 by omega]
        rfl
    obtain ⟨m, e1, hm⟩ := key
    rw [e1]
    refine ⟨by decide, cmul_r (by omega) (by omega), ⟨by decide, by decide⟩, by decide, ?_⟩
    dsimp only
    rw [cut_to (by omega), cut_from (by omega), ← List.map_take, ← List.map_drop, show (m : Int).toNat = m by omega, show ((m : Int) + 1).toNat = m + 1 by omega, spGrown_iff, List.length_take]
    have hmin : min m ls.length = m := by omega
    refine ⟨hp, hw0, hw1, by omega, by omega, by rw [spend_n]; omega, by omega, fun t1 h1 => ?_⟩
    obtain ⟨c, e2, e3, e4⟩ := atI_map (f := chr) (xs := ls) (i := m) (by omega) (by omega)
    rw [e4]
    dsimp only
    rw [spGrown_iff, List.length_drop]
    refine ⟨hp, hw0, hw1, by omega, by omega, by simp only [spend_n]; omega, by omega, fun t2 h2 => ⟨by decide, ?_⟩⟩
    rw [spend_spend, spend_spend, hmin, show 1 + (m + (ls.length - (m + 1))) = ls.length by omega]
    refine .of (hR (.node t1 c t2) ?_)
    rw [ino, h1, h2]
    rw [show (m : Int).toNat = m by omega] at e2
    conv => rhs; rw [← List.take_append_drop m ls]
    congr 1
    rw [List.drop_eq_getElem_cons hm]
    congr 1
    rw [List.getElem?_eq_getElem hm] at e2
    exact (Option.some.inj e2).symm
def spTree (lim : Nat) : SpD := fun ws s R _ => ∃ p : Addr, ws = [.ref p, .int lim] ∧ Dk s p ∧ 100 ≤ s.n ∧ ∀ t : Tr, 0 < t.size → t.size ≤ lim → t.all Lt → R t.d (spend s 100)
theorem e_law_tree {lim : Nat} (h0 : 0 < lim) (h1 : lim ≤ 26) : ∀ ws s R, spTree lim ws s R X0 → ws.length = 2 ∧ t_law_tree spNext (spGrown 30) spLetters { nx := fun _ s' => Lw R .non s', rt := Lw R } (Dz.startD N_law_tree ws) s := by
  rintro ws s R ⟨p, rfl, hp, hn, hR⟩
  refine ⟨rfl, ?_⟩
  simp only [Dz.dSeq, Dz.dIf, Dz.dB, Dz.dOp, Dz.dUn, Dz.dVar, Dz.dC, Dz.dRet, Dz.dRetN, Dz.dNx, Dz.dBrk, Dz.dCnt, Dz.dAsg, Dz.dSet, Dz.dPar, Dz.dPar3, Dz.dgT, Dz.dgTt, Dz.dgCons, Dz.dgNil, Dz.dgN, Dz.dCall, Dz.dCons, Dz.dNil, Dz.dTup, Dz.dCB, Dz.dCN, Dz.dF, Dz.dM, Dz.dSz, Dz.dExpr, Dz.dNot, Dz.dAnd, Dz.dOr, Dz.dAndV, Dz.dOrV, Dz.dNotV, Dz.dIfE, Dz.dChain, Dz.dFrz, Dz.dIt, Dz.dRng1, Dz.dRng2, Dz.dSl, Dz.dNoPart, Dz.dPart, Dz.dCat, Dz.dRep, Dz.dLc, Dz.dFor, Dz.dAppend, Dz.dPop, Dz.dPopAt, Dz.rPopAtD, Dz.dSetIx, Dz.dYes, Dz.dRev, Dz.asI, Dz.asQ, Dz.asL, Dz.rIsN, Dz.rIs, Dz.rIsNot, Dz.isNon_d, Dz.isNon_non, Dz.isNon_tup, Dz.isNon_lst, Dz.isNon_str, Dz.isNon_int, Dz.isNon_bl, Dz.isNon_ref, Dz.isNon_dic, Dz.isNon_ty, Dz.rAddU, Dz.rSub, Dz.rMod, Dz.rDiv, Dz.rPow, Dz.rLt, Dz.rLe, Dz.rGt, Dz.rGe, Dz.rEq, Dz.rNe, Dz.rEqv, Dz.rInt2, Dz.rMax2, Dz.rMin2, Dz.rI, Dz.rCmp, Dz.rIxU, Dz.rAbs, Dz.rToInt, Dz.rListU, Dz.rSlU, Dz.trk, Dz.rLenU, Dz.rMulU, Dz.rNeg, Dz.startD, Dz.wipeD, Dz.Tr.d, Dz.Sg.put_M, Dz.Sg.put_n, Dz.Sg.put_pv, Dz.Sg.del_M, Dz.Sg.del_n, Dz.Sg.del_pv, Dz.Mm.put_same, Dz.Mm.put_put, Dz.Sg.put_put, Dz.Mm.put_ne, Dz.Mm.del_ne, Dz.rIsi, Dz.tyN, Dz.tyNames, Dz.isiT, Dz.subT, Dz.tyOk, Dz.tyNames, Dz.pyOf, Dz.toPy, Dz.toPys, Dz.Sg.put_mk, Dz.Sg.del_mk, Dz.spend_M, Dz.spend_pv, Dz.spend_n, Dz.spend_spend, Dz.spend_put, Dz.spend_del, Dz.spNext_iff, Dz.asI_lst, Dz.asI_tup, Dz.dFJ, Dz.dJs, Dz.dFmt, Dz.Tr.isNil, List.map_cons, List.map_nil, List.length_cons, List.length_nil, List.length_map, List.length_set, List.replicate, Nat.reduceSub, Nat.reduceAdd, List.cons_append, List.nil_append, List.getElem?_cons_zero, List.getElem?_cons_succ, List.set_cons_zero, List.set_cons_succ, if_true, if_false, Bool.false_eq_true, id, Nat.sub_zero, Bool.not_true, Bool.not_false, true_and, and_true, ne_eq, not_false_eq_true, not_true_eq_false, reduceCtorEq, Option.map_some, Option.bind_some, String.reduceBEq, Bool.or_false, Bool.or_true, Bool.false_or, Bool.true_or, Bool.and_true, Bool.and_false, Bool.true_and, Bool.false_and, decide_true, decide_false, List.all_cons, List.all_nil, List.any_cons, List.any_nil, beq_self_eq_true, t_law_tree]
  refine ⟨hp, by omega, by omega, by omega, fun r r0 r1 => ⟨by decide, hp, by decide, by decide, by omega, fun i i0 i1 => ?_⟩⟩
  have key : ∃ m : Int, L2.atI [D.int 0, D.int 0, D.int 0, D.int 1, D.int 2, D.int 3, D.int 4] i = some (.int m) ∧ 0 ≤ m ∧ m ≤ 4 := by
    have : i = 0 ∨ i = 1 ∨ i = 2 ∨ i = 3 ∨ i = 4 ∨ i = 5 ∨ i = 6 := by omega
    rcases this with rfl | rfl | rfl | rfl | rfl | rfl | rfl <;> exact ⟨_, rfl, by decide, by decide⟩
  obtain ⟨m, e1, e2, e3⟩ := key
  rw [e1]
  simp only [Dz.dSeq, Dz.dIf, Dz.dB, Dz.dOp, Dz.dUn, Dz.dVar, Dz.dC, Dz.dRet, Dz.dRetN, Dz.dNx, Dz.dBrk, Dz.dCnt, Dz.dAsg, Dz.dSet, Dz.dPar, Dz.dPar3, Dz.dgT, Dz.dgTt, Dz.dgCons, Dz.dgNil, Dz.dgN, Dz.dCall, Dz.dCons, Dz.dNil, Dz.dTup, Dz.dCB, Dz.dCN, Dz.dF, Dz.dM, Dz.dSz, Dz.dExpr, Dz.dNot, Dz.dAnd, Dz.dOr, Dz.dAndV, Dz.dOrV, Dz.dNotV, Dz.dIfE, Dz.dChain, Dz.dFrz, Dz.dIt, Dz.dRng1, Dz.dRng2, Dz.dSl, Dz.dNoPart, Dz.dPart, Dz.dCat, Dz.dRep, Dz.dLc, Dz.dFor, Dz.dAppend, Dz.dPop, Dz.dPopAt, Dz.rPopAtD, Dz.dSetIx, Dz.dYes, Dz.dRev, Dz.asI, Dz.asQ, Dz.asL, Dz.rIsN, Dz.rIs, Dz.rIsNot, Dz.isNon_d, Dz.isNon_non, Dz.isNon_tup, Dz.isNon_lst, Dz.isNon_str, Dz.isNon_int, Dz.isNon_bl, Dz.isNon_ref, Dz.isNon_dic, Dz.isNon_ty, Dz.rAddU, Dz.rSub, Dz.rMod, Dz.rDiv, Dz.rPow, Dz.rLt, Dz.rLe, Dz.rGt, Dz.rGe, Dz.rEq, Dz.rNe, Dz.rEqv, Dz.rInt2, Dz.rMax2, Dz.rMin2, Dz.rI, Dz.rCmp, Dz.rIxU, Dz.rAbs, Dz.rToInt, Dz.rListU, Dz.rSlU, Dz.trk, Dz.rLenU, Dz.rMulU, Dz.rNeg, Dz.startD, Dz.wipeD, Dz.Tr.d, Dz.Sg.put_M, Dz.Sg.put_n, Dz.Sg.put_pv, Dz.Sg.del_M, Dz.Sg.del_n, Dz.Sg.del_pv, Dz.Mm.put_same, Dz.Mm.put_put, Dz.Sg.put_put, Dz.Mm.put_ne, Dz.Mm.del_ne, Dz.rIsi, Dz.tyN, Dz.tyNames, Dz.isiT, Dz.subT, Dz.tyOk, Dz.tyNames, Dz.pyOf, Dz.toPy, Dz.toPys, Dz.Sg.put_mk, Dz.Sg.del_mk, Dz.spend_M, Dz.spend_pv, Dz.spend_n, Dz.spend_spend, Dz.spend_put, Dz.spend_del, Dz.spNext_iff, Dz.asI_lst, Dz.asI_tup, Dz.dFJ, Dz.dJs, Dz.dFmt, Dz.Tr.isNil, List.map_cons, List.map_nil, List.length_cons, List.length_nil, List.length_map, List.length_set, List.replicate, Nat.reduceSub, Nat.reduceAdd, List.cons_append, List.nil_append, List.getElem?_cons_zero, List.getElem?_cons_succ, List.set_cons_zero, List.set_cons_succ, if_true, if_false, Bool.false_eq_true, id, Nat.sub_zero, Bool.not_true, Bool.not_false, true_and, and_true, ne_eq, not_false_eq_true, not_true_eq_false, reduceCtorEq, Option.map_some, Option.bind_some, String.reduceBEq, Bool.or_false, Bool.or_true, Bool.false_or, Bool.true_or, Bool.and_true, Bool.and_false, Bool.true_and, Bool.false_and, decide_true, decide_false, List.all_cons, List.all_nil, List.any_cons, List.any_nil, beq_self_eq_true]
  refine ⟨p, r.toNat + 1, by rw [show ((r.toNat + 1 : Nat) : Int) = 1 + r by omega], hp, by omega, by simp only [spend_n]; omega, fun ls hl hc => ?_⟩
  dsimp only
  rw [spGrown_iff]
  refine ⟨hp, e2, e3, by omega, by omega, by simp only [spend_n]; omega, by omega, fun t ht => ?_⟩
  rw [spend_spend, spend_spend]
  have hz := ino_len t
  rw [ht] at hz
  exact .more (by omega) (hR t (by omega) (by omega) (ino_all fun c hc' => hc c (ht ▸ hc')))
end Pr
namespace Pr
open PySem PySem.Spec PyProof.Rows L2 Dz
def spSame (n : Nat) : SpD := fun ws s R _ => ∃ w m, ws = [w, w] ∧ fit w m ∧ m < n ∧ m ≤ 64 ∧ R (.bl true) s
theorem e_law_same (n : Nat) : ∀ ws s R, spSame (n + 1) ws s R X0 → ws.length = 2 ∧ t_law_same (spSame n) { nx := fun _ s' => Lw R .non s', rt := Lw R } (Dz.startD N_law_same ws) s := by
  rintro ws s R ⟨w, m, rfl, hf, hm, h6, hR⟩
  refine ⟨rfl, ?_⟩
  cases w with
  | non =>
    simp only [Dz.dSeq, Dz.dIf, Dz.dB, Dz.dOp, Dz.dUn, Dz.dVar, Dz.dC, Dz.dRet, Dz.dRetN, Dz.dNx, Dz.dBrk, Dz.dCnt, Dz.dAsg, Dz.dSet, Dz.dPar, Dz.dPar3, Dz.dgT, Dz.dgTt, Dz.dgCons, Dz.dgNil, Dz.dgN, Dz.dCall, Dz.dCons, Dz.dNil, Dz.dTup, Dz.dCB, Dz.dCN, Dz.dF, Dz.dM, Dz.dSz, Dz.dExpr, Dz.dNot, Dz.dAnd, Dz.dOr, Dz.dAndV, Dz.dOrV, Dz.dNotV, Dz.dIfE, Dz.dChain, Dz.dFrz, Dz.dIt, Dz.dRng1, Dz.dRng2, Dz.dSl, Dz.dNoPart, Dz.dPart, Dz.dCat, Dz.dRep, Dz.dLc, Dz.dFor, Dz.dAppend, Dz.dPop, Dz.dPopAt, Dz.rPopAtD, Dz.dSetIx, Dz.dYes, Dz.dRev, Dz.asI, Dz.asQ, Dz.asL, Dz.rIsN, Dz.rIs, Dz.rIsNot, Dz.isNon_d, Dz.isNon_non, Dz.isNon_tup, Dz.isNon_lst, Dz.isNon_str, Dz.isNon_int, Dz.isNon_bl, Dz.isNon_ref, Dz.isNon_dic, Dz.isNon_ty, Dz.rAddU, Dz.rSub, Dz.rMod, Dz.rDiv, Dz.rPow, Dz.rLt, Dz.rLe, Dz.rGt, Dz.rGe, Dz.rEq, Dz.rNe, Dz.rEqv, Dz.rInt2, Dz.rMax2, Dz.rMin2, Dz.rI, Dz.rCmp, Dz.rIxU, Dz.rAbs, Dz.rToInt, Dz.rListU, Dz.rSlU, Dz.trk, Dz.rLenU, Dz.rMulU, Dz.rNeg, Dz.startD, Dz.wipeD, Dz.Tr.d, Dz.Sg.put_M, Dz.Sg.put_n, Dz.Sg.put_pv, Dz.Sg.del_M, Dz.Sg.del_n, Dz.Sg.del_pv, Dz.Mm.put_same, Dz.Mm.put_put, Dz.Sg.put_put, Dz.Mm.put_ne, Dz.Mm.del_ne, Dz.rIsi, Dz.tyN, Dz.tyNames, Dz.isiT, Dz.subT, Dz.tyOk, Dz.tyNames, Dz.pyOf, Dz.toPy, Dz.toPys, Dz.Sg.put_mk, Dz.Sg.del_mk, Dz.spend_M, Dz.spend_pv, Dz.spend_n, Dz.spend_spend, Dz.spend_put, Dz.spend_del, Dz.spNext_iff, Dz.asI_lst, Dz.asI_tup, Dz.dFJ, Dz.dJs, Dz.dFmt, Dz.Tr.isNil, List.map_cons, List.map_nil, List.length_cons, List.length_nil, List.length_map, List.length_set, List.replicate, Nat.reduceSub, Nat.reduceAdd, List.cons_append, List.nil_append, List.getElem?_cons_zero, List.getElem?_cons_succ, List.set_cons_zero, List.set_cons_succ, if_true, if_false, Bool.false_eq_true, id, Nat.sub_zero, Bool.not_true, Bool.not_false, true_and, and_true, ne_eq, not_false_eq_true, not_true_eq_false, reduceCtorEq, Option.map_some, Option.bind_some, String.reduceBEq, Bool.or_false, Bool.or_true, Bool.false_or, Bool.true_or, Bool.and_true, Bool.and_false, Bool.true_and, Bool.false_and, decide_true, decide_false, List.all_cons, List.all_nil, List.any_cons, List.any_nil, beq_self_eq_true, t_law_same]
    exact ⟨by decide, .of hR⟩
  | bl b =>
    simp only [Dz.dSeq, Dz.dIf, Dz.dB, Dz.dOp, Dz.dUn, Dz.dVar, Dz.dC, Dz.dRet, Dz.dRetN, Dz.dNx, Dz.dBrk, Dz.dCnt, Dz.dAsg, Dz.dSet, Dz.dPar, Dz.dPar3, Dz.dgT, Dz.dgTt, Dz.dgCons, Dz.dgNil, Dz.dgN, Dz.dCall, Dz.dCons, Dz.dNil, Dz.dTup, Dz.dCB, Dz.dCN, Dz.dF, Dz.dM, Dz.dSz, Dz.dExpr, Dz.dNot, Dz.dAnd, Dz.dOr, Dz.dAndV, Dz.dOrV, Dz.dNotV, Dz.dIfE, Dz.dChain, Dz.dFrz, Dz.dIt, Dz.dRng1, Dz.dRng2, Dz.dSl, Dz.dNoPart, Dz.dPart, Dz.dCat, Dz.dRep, Dz.dLc, Dz.dFor, Dz.dAppend, Dz.dPop, Dz.dPopAt, Dz.rPopAtD, Dz.dSetIx, Dz.dYes, Dz.dRev, Dz.asI, Dz.asQ, Dz.asL, Dz.rIsN, Dz.rIs, Dz.rIsNot, Dz.isNon_d, Dz.isNon_non, Dz.isNon_tup, Dz.isNon_lst, Dz.isNon_str, Dz.isNon_int, Dz.isNon_bl, Dz.isNon_ref, Dz.isNon_dic, Dz.isNon_ty, Dz.rAddU, Dz.rSub, Dz.rMod, Dz.rDiv, Dz.rPow, Dz.rLt, Dz.rLe, Dz.rGt, Dz.rGe, Dz.rEq, Dz.rNe, Dz.rEqv, Dz.rInt2, Dz.rMax2, Dz.rMin2, Dz.rI, Dz.rCmp, Dz.rIxU, Dz.rAbs, Dz.rToInt, Dz.rListU, Dz.rSlU, Dz.trk, Dz.rLenU, Dz.rMulU, Dz.rNeg, Dz.startD, Dz.wipeD, Dz.Tr.d, Dz.Sg.put_M, Dz.Sg.put_n, Dz.Sg.put_pv, Dz.Sg.del_M, Dz.Sg.del_n, Dz.Sg.del_pv, Dz.Mm.put_same, Dz.Mm.put_put, Dz.Sg.put_put, Dz.Mm.put_ne, Dz.Mm.del_ne, Dz.rIsi, Dz.tyN, Dz.tyNames, Dz.isiT, Dz.subT, Dz.tyOk, Dz.tyNames, Dz.pyOf, Dz.toPy, Dz.toPys, Dz.Sg.put_mk, Dz.Sg.del_mk, Dz.spend_M, Dz.spend_pv, Dz.spend_n, Dz.spend_spend, Dz.spend_put, Dz.spend_del, Dz.spNext_iff, Dz.asI_lst, Dz.asI_tup, Dz.dFJ, Dz.dJs, Dz.dFmt, Dz.Tr.isNil, List.map_cons, List.map_nil, List.length_cons, List.length_nil, List.length_map, List.length_set, List.replicate, Nat.reduceSub, Nat.reduceAdd, List.cons_append, List.nil_append, List.getElem?_cons_zero, List.getElem?_cons_succ, List.set_cons_zero, List.set_cons_succ, if_true, if_false, Bool.false_eq_true, id, Nat.sub_zero, Bool.not_true, Bool.not_false, true_and, and_true, ne_eq, not_false_eq_true, not_true_eq_false, reduceCtorEq, Option.map_some, Option.bind_some, String.reduceBEq, Bool.or_false, Bool.or_true, Bool.false_or, Bool.true_or, Bool.and_true, Bool.and_false, Bool.true_and, Bool.false_and, decide_true, decide_false, List.all_cons, List.all_nil, List.any_cons, List.any_nil, beq_self_eq_true, t_law_same]
    exact ⟨by decide, .of hR⟩
  | int i =>
    simp only [Dz.dSeq, Dz.dIf, Dz.dB, Dz.dOp, Dz.dUn, Dz.dVar, Dz.dC, Dz.dRet, Dz.dRetN, Dz.dNx, Dz.dBrk, Dz.dCnt, Dz.dAsg, Dz.dSet, Dz.dPar, Dz.dPar3, Dz.dgT, Dz.dgTt, Dz.dgCons, Dz.dgNil, Dz.dgN, Dz.dCall, Dz.dCons, Dz.dNil, Dz.dTup, Dz.dCB, Dz.dCN, Dz.dF, Dz.dM, Dz.dSz, Dz.dExpr, Dz.dNot, Dz.dAnd, Dz.dOr, Dz.dAndV, Dz.dOrV, Dz.dNotV, Dz.dIfE, Dz.dChain, Dz.dFrz, Dz.dIt, Dz.dRng1, Dz.dRng2, Dz.dSl, Dz.dNoPart, Dz.dPart, Dz.dCat, Dz.dRep, Dz.dLc, Dz.dFor, Dz.dAppend, Dz.dPop, Dz.dPopAt, Dz.rPopAtD, Dz.dSetIx, Dz.dYes, Dz.dRev, Dz.asI, Dz.asQ, Dz.asL, Dz.rIsN, Dz.rIs, Dz.rIsNot, Dz.isNon_d, Dz.isNon_non, Dz.isNon_tup, Dz.isNon_lst, Dz.isNon_str, Dz.isNon_int, Dz.isNon_bl, Dz.isNon_ref, Dz.isNon_dic, Dz.isNon_ty, Dz.rAddU, Dz.rSub, Dz.rMod, Dz.rDiv, Dz.rPow, Dz.rLt, Dz.rLe, Dz.rGt, Dz.rGe, Dz.rEq, Dz.rNe, Dz.rEqv, Dz.rInt2, Dz.rMax2, Dz.rMin2, Dz.rI, Dz.rCmp, Dz.rIxU, Dz.rAbs, Dz.rToInt, Dz.rListU, Dz.rSlU, Dz.trk, Dz.rLenU, Dz.rMulU, Dz.rNeg, Dz.startD, Dz.wipeD, Dz.Tr.d, Dz.Sg.put_M, Dz.Sg.put_n, Dz.Sg.put_pv, Dz.Sg.del_M, Dz.Sg.del_n, Dz.Sg.del_pv, Dz.Mm.put_same, Dz.Mm.put_put, Dz.Sg.put_put, Dz.Mm.put_ne, Dz.Mm.del_ne, Dz.rIsi, Dz.tyN, Dz.tyNames, Dz.isiT, Dz.subT, Dz.tyOk, Dz.tyNames, Dz.pyOf, Dz.toPy, Dz.toPys, Dz.Sg.put_mk, Dz.Sg.del_mk, Dz.spend_M, Dz.spend_pv, Dz.spend_n, Dz.spend_spend, Dz.spend_put, Dz.spend_del, Dz.spNext_iff, Dz.asI_lst, Dz.asI_tup, Dz.dFJ, Dz.dJs, Dz.dFmt, Dz.Tr.isNil, List.map_cons, List.map_nil, List.length_cons, List.length_nil, List.length_map, List.length_set, List.replicate, Nat.reduceSub, Nat.reduceAdd, List.cons_append, List.nil_append, List.getElem?_cons_zero, List.getElem?_cons_succ, List.set_cons_zero, List.set_cons_succ, if_true, if_false, Bool.false_eq_true, id, Nat.sub_zero, Bool.not_true, Bool.not_false, true_and, and_true, ne_eq, not_false_eq_true, not_true_eq_false, reduceCtorEq, Option.map_some, Option.bind_some, String.reduceBEq, Bool.or_false, Bool.or_true, Bool.false_or, Bool.true_or, Bool.and_true, Bool.and_false, Bool.true_and, Bool.false_and, decide_true, decide_false, List.all_cons, List.all_nil, List.any_cons, List.any_nil, beq_self_eq_true, t_law_same]
    exact ⟨by decide, .of hR⟩
  | str i =>
    simp only [Dz.dSeq, Dz.dIf, Dz.dB, Dz.dOp, Dz.dUn, Dz.dVar, Dz.dC, Dz.dRet, Dz.dRetN, Dz.dNx, Dz.dBrk, Dz.dCnt, Dz.dAsg, Dz.dSet, Dz.dPar, Dz.dPar3, Dz.dgT, Dz.dgTt, Dz.dgCons, Dz.dgNil, Dz.dgN, Dz.dCall, Dz.dCons, Dz.dNil, Dz.dTup, Dz.dCB, Dz.dCN, Dz.dF, Dz.dM, Dz.dSz, Dz.dExpr, Dz.dNot, Dz.dAnd, Dz.dOr, Dz.dAndV, Dz.dOrV, Dz.dNotV, Dz.dIfE, Dz.dChain, Dz.dFrz, Dz.dIt, Dz.dRng1, Dz.dRng2, Dz.dSl, Dz.dNoPart, Dz.dPart, Dz.dCat, Dz.dRep, Dz.dLc, Dz.dFor, Dz.dAppend, Dz.dPop, Dz.dPopAt, Dz.rPopAtD, Dz.dSetIx, Dz.dYes, Dz.dRev, Dz.asI, Dz.asQ, Dz.asL, Dz.rIsN, Dz.rIs, Dz.rIsNot, Dz.isNon_d, Dz.isNon_non, Dz.isNon_tup, Dz.isNon_lst, Dz.isNon_str, Dz.isNon_int, Dz.isNon_bl, Dz.isNon_ref, Dz.isNon_dic, Dz.isNon_ty, Dz.rAddU, Dz.rSub, Dz.rMod, Dz.rDiv, Dz.rPow, Dz.rLt, Dz.rLe, Dz.rGt, Dz.rGe, Dz.rEq, Dz.rNe, Dz.rEqv, Dz.rInt2, Dz.rMax2, Dz.rMin2, Dz.rI, Dz.rCmp, Dz.rIxU, Dz.rAbs, Dz.rToInt, Dz.rListU, Dz.rSlU, Dz.trk, Dz.rLenU, Dz.rMulU, Dz.rNeg, Dz.startD, Dz.wipeD, Dz.Tr.d, Dz.Sg.put_M, Dz.Sg.put_n, Dz.Sg.put_pv, Dz.Sg.del_M, Dz.Sg.del_n, Dz.Sg.del_pv, Dz.Mm.put_same, Dz.Mm.put_put, Dz.Sg.put_put, Dz.Mm.put_ne, Dz.Mm.del_ne, Dz.rIsi, Dz.tyN, Dz.tyNames, Dz.isiT, Dz.subT, Dz.tyOk, Dz.tyNames, Dz.pyOf, Dz.toPy, Dz.toPys, Dz.Sg.put_mk, Dz.Sg.del_mk, Dz.spend_M, Dz.spend_pv, Dz.spend_n, Dz.spend_spend, Dz.spend_put, Dz.spend_del, Dz.spNext_iff, Dz.asI_lst, Dz.asI_tup, Dz.dFJ, Dz.dJs, Dz.dFmt, Dz.Tr.isNil, List.map_cons, List.map_nil, List.length_cons, List.length_nil, List.length_map, List.length_set, List.replicate, Nat.reduceSub, Nat.reduceAdd, List.cons_append, List.nil_append, List.getElem?_cons_zero, List.getElem?_cons_succ, List.set_cons_zero, List.set_cons_succ, if_true, if_false, Bool.false_eq_true, id, Nat.sub_zero, Bool.not_true, Bool.not_false, true_and, and_true, ne_eq, not_false_eq_true, not_true_eq_false, reduceCtorEq, Option.map_some, Option.bind_some, String.reduceBEq, Bool.or_false, Bool.or_true, Bool.false_or, Bool.true_or, Bool.and_true, Bool.and_false, Bool.true_and, Bool.false_and, decide_true, decide_false, List.all_cons, List.all_nil, List.any_cons, List.any_nil, beq_self_eq_true, t_law_same]
    exact ⟨by decide, .of hR⟩
  | tup ws =>
    have hf' : 0 < m ∧ ws.length ≤ 100000 ∧ fits ws (m - 1) := hf
    simp only [Dz.dSeq, Dz.dIf, Dz.dB, Dz.dOp, Dz.dUn, Dz.dVar, Dz.dC, Dz.dRet, Dz.dRetN, Dz.dNx, Dz.dBrk, Dz.dCnt, Dz.dAsg, Dz.dSet, Dz.dPar, Dz.dPar3, Dz.dgT, Dz.dgTt, Dz.dgCons, Dz.dgNil, Dz.dgN, Dz.dCall, Dz.dCons, Dz.dNil, Dz.dTup, Dz.dCB, Dz.dCN, Dz.dF, Dz.dM, Dz.dSz, Dz.dExpr, Dz.dNot, Dz.dAnd, Dz.dOr, Dz.dAndV, Dz.dOrV, Dz.dNotV, Dz.dIfE, Dz.dChain, Dz.dFrz, Dz.dIt, Dz.dRng1, Dz.dRng2, Dz.dSl, Dz.dNoPart, Dz.dPart, Dz.dCat, Dz.dRep, Dz.dLc, Dz.dFor, Dz.dAppend, Dz.dPop, Dz.dPopAt, Dz.rPopAtD, Dz.dSetIx, Dz.dYes, Dz.dRev, Dz.asI, Dz.asQ, Dz.asL, Dz.rIsN, Dz.rIs, Dz.rIsNot, Dz.isNon_d, Dz.isNon_non, Dz.isNon_tup, Dz.isNon_lst, Dz.isNon_str, Dz.isNon_int, Dz.isNon_bl, Dz.isNon_ref, Dz.isNon_dic, Dz.isNon_ty, Dz.rAddU, Dz.rSub, Dz.rMod, Dz.rDiv, Dz.rPow, Dz.rLt, Dz.rLe, Dz.rGt, Dz.rGe, Dz.rEq, Dz.rNe, Dz.rEqv, Dz.rInt2, Dz.rMax2, Dz.rMin2, Dz.rI, Dz.rCmp, Dz.rIxU, Dz.rAbs, Dz.rToInt, Dz.rListU, Dz.rSlU, Dz.trk, Dz.rLenU, Dz.rMulU, Dz.rNeg, Dz.startD, Dz.wipeD, Dz.Tr.d, Dz.Sg.put_M, Dz.Sg.put_n, Dz.Sg.put_pv, Dz.Sg.del_M, Dz.Sg.del_n, Dz.Sg.del_pv, Dz.Mm.put_same, Dz.Mm.put_put, Dz.Sg.put_put, Dz.Mm.put_ne, Dz.Mm.del_ne, Dz.rIsi, Dz.tyN, Dz.tyNames, Dz.isiT, Dz.subT, Dz.tyOk, Dz.tyNames, Dz.pyOf, Dz.toPy, Dz.toPys, Dz.Sg.put_mk, Dz.Sg.del_mk, Dz.spend_M, Dz.spend_pv, Dz.spend_n, Dz.spend_spend, Dz.spend_put, Dz.spend_del, Dz.spNext_iff, Dz.asI_lst, Dz.asI_tup, Dz.dFJ, Dz.dJs, Dz.dFmt, Dz.Tr.isNil, List.map_cons, List.map_nil, List.length_cons, List.length_nil, List.length_map, List.length_set, List.replicate, Nat.reduceSub, Nat.reduceAdd, List.cons_append, List.nil_append, List.getElem?_cons_zero, List.getElem?_cons_succ, List.set_cons_zero, List.set_cons_succ, if_true, if_false, Bool.false_eq_true, id, Nat.sub_zero, Bool.not_true, Bool.not_false, true_and, and_true, ne_eq, not_false_eq_true, not_true_eq_false, reduceCtorEq, Option.map_some, Option.bind_some, String.reduceBEq, Bool.or_false, Bool.or_true, Bool.false_or, Bool.true_or, Bool.and_true, Bool.and_false, Bool.true_and, Bool.false_and, decide_true, decide_false, List.all_cons, List.all_nil, List.any_cons, List.any_nil, beq_self_eq_true, t_law_same]
    refine ⟨by decide, by omega, by omega, ?_⟩
    refine lc_pure (fun _ => none) rfl ?_ (by rw [rg_len, List.length_nil]; omega) ?_
    · rintro x hx k B hk
      obtain ⟨j, hj, rfl⟩ := rg_mem hx
      have hj2 : j < ws.length := by omega
      have e : L2.atI ws (0 + (j : Int)) = some ws[j] := by
        rw [atI_nat (by omega) (by omega), show (0 + (j : Int)).toNat = j by omega]
        simp [hj2]
      simp only [Dz.dSeq, Dz.dIf, Dz.dB, Dz.dOp, Dz.dUn, Dz.dVar, Dz.dC, Dz.dRet, Dz.dRetN, Dz.dNx, Dz.dBrk, Dz.dCnt, Dz.dAsg, Dz.dSet, Dz.dPar, Dz.dPar3, Dz.dgT, Dz.dgTt, Dz.dgCons, Dz.dgNil, Dz.dgN, Dz.dCall, Dz.dCons, Dz.dNil, Dz.dTup, Dz.dCB, Dz.dCN, Dz.dF, Dz.dM, Dz.dSz, Dz.dExpr, Dz.dNot, Dz.dAnd, Dz.dOr, Dz.dAndV, Dz.dOrV, Dz.dNotV, Dz.dIfE, Dz.dChain, Dz.dFrz, Dz.dIt, Dz.dRng1, Dz.dRng2, Dz.dSl, Dz.dNoPart, Dz.dPart, Dz.dCat, Dz.dRep, Dz.dLc, Dz.dFor, Dz.dAppend, Dz.dPop, Dz.dPopAt, Dz.rPopAtD, Dz.dSetIx, Dz.dYes, Dz.dRev, Dz.asI, Dz.asQ, Dz.asL, Dz.rIsN, Dz.rIs, Dz.rIsNot, Dz.isNon_d, Dz.isNon_non, Dz.isNon_tup, Dz.isNon_lst, Dz.isNon_str, Dz.isNon_int, Dz.isNon_bl, Dz.isNon_ref, Dz.isNon_dic, Dz.isNon_ty, Dz.rAddU, Dz.rSub, Dz.rMod, Dz.rDiv, Dz.rPow, Dz.rLt, Dz.rLe, Dz.rGt, Dz.rGe, Dz.rEq, Dz.rNe, Dz.rEqv, Dz.rInt2, Dz.rMax2, Dz.rMin2, Dz.rI, Dz.rCmp, Dz.rIxU, Dz.rAbs, Dz.rToInt, Dz.rListU, Dz.rSlU, Dz.trk, Dz.rLenU, Dz.rMulU, Dz.rNeg, Dz.startD, Dz.wipeD, Dz.Tr.d, Dz.Sg.put_M, Dz.Sg.put_n, Dz.Sg.put_pv, Dz.Sg.del_M, Dz.Sg.del_n, Dz.Sg.del_pv, Dz.Mm.put_same, Dz.Mm.put_put, Dz.Sg.put_put, Dz.Mm.put_ne, Dz.Mm.del_ne, Dz.rIsi, Dz.tyN, Dz.tyNames, Dz.isiT, Dz.subT, Dz.tyOk, Dz.tyNames, Dz.pyOf, Dz.toPy, Dz.toPys, Dz.Sg.put_mk, Dz.Sg.del_mk, Dz.spend_M, Dz.spend_pv, Dz.spend_n, Dz.spend_spend, Dz.spend_put, Dz.spend_del, Dz.spNext_iff, Dz.asI_lst, Dz.asI_tup, Dz.dFJ, Dz.dJs, Dz.dFmt, Dz.Tr.isNil, List.map_cons, List.map_nil, List.length_cons, List.length_nil, List.length_map, List.length_set, List.replicate, Nat.reduceSub, Nat.reduceAdd, List.cons_append, List.nil_append, List.getElem?_cons_zero, List.getElem?_cons_succ, List.set_cons_zero, List.set_cons_succ, if_true, if_false, Bool.false_eq_true, id, Nat.sub_zero, Bool.not_true, Bool.not_false, true_and, and_true, ne_eq, not_false_eq_true, not_true_eq_false, reduceCtorEq, Option.map_some, Option.bind_some, String.reduceBEq, Bool.or_false, Bool.or_true, Bool.false_or, Bool.true_or, Bool.and_true, Bool.and_false, Bool.true_and, Bool.false_and, decide_true, decide_false, List.all_cons, List.all_nil, List.any_cons, List.any_nil, beq_self_eq_true, e]
      refine ⟨ws[j], m - 1, rfl, fits_mem hf'.2.2 (List.getElem_mem _), by omega, by omega, ?_⟩
      simp only [Dz.dSeq, Dz.dIf, Dz.dB, Dz.dOp, Dz.dUn, Dz.dVar, Dz.dC, Dz.dRet, Dz.dRetN, Dz.dNx, Dz.dBrk, Dz.dCnt, Dz.dAsg, Dz.dSet, Dz.dPar, Dz.dPar3, Dz.dgT, Dz.dgTt, Dz.dgCons, Dz.dgNil, Dz.dgN, Dz.dCall, Dz.dCons, Dz.dNil, Dz.dTup, Dz.dCB, Dz.dCN, Dz.dF, Dz.dM, Dz.dSz, Dz.dExpr, Dz.dNot, Dz.dAnd, Dz.dOr, Dz.dAndV, Dz.dOrV, Dz.dNotV, Dz.dIfE, Dz.dChain, Dz.dFrz, Dz.dIt, Dz.dRng1, Dz.dRng2, Dz.dSl, Dz.dNoPart, Dz.dPart, Dz.dCat, Dz.dRep, Dz.dLc, Dz.dFor, Dz.dAppend, Dz.dPop, Dz.dPopAt, Dz.rPopAtD, Dz.dSetIx, Dz.dYes, Dz.dRev, Dz.asI, Dz.asQ, Dz.asL, Dz.rIsN, Dz.rIs, Dz.rIsNot, Dz.isNon_d, Dz.isNon_non, Dz.isNon_tup, Dz.isNon_lst, Dz.isNon_str, Dz.isNon_int, Dz.isNon_bl, Dz.isNon_ref, Dz.isNon_dic, Dz.isNon_ty, Dz.rAddU, Dz.rSub, Dz.rMod, Dz.rDiv, Dz.rPow, Dz.rLt, Dz.rLe, Dz.rGt, Dz.rGe, Dz.rEq, Dz.rNe, Dz.rEqv, Dz.rInt2, Dz.rMax2, Dz.rMin2, Dz.rI, Dz.rCmp, Dz.rIxU, Dz.rAbs, Dz.rToInt, Dz.rListU, Dz.rSlU, Dz.trk, Dz.rLenU, Dz.rMulU, Dz.rNeg, Dz.startD, Dz.wipeD, Dz.Tr.d, Dz.Sg.put_M, Dz.Sg.put_n, Dz.Sg.put_pv, Dz.Sg.del_M, Dz.Sg.del_n, Dz.Sg.del_pv, Dz.Mm.put_same, Dz.Mm.put_put, Dz.Sg.put_put, Dz.Mm.put_ne, Dz.Mm.del_ne, Dz.rIsi, Dz.tyN, Dz.tyNames, Dz.isiT, Dz.subT, Dz.tyOk, Dz.tyNames, Dz.pyOf, Dz.toPy, Dz.toPys, Dz.Sg.put_mk, Dz.Sg.del_mk, Dz.spend_M, Dz.spend_pv, Dz.spend_n, Dz.spend_spend, Dz.spend_put, Dz.spend_del, Dz.spNext_iff, Dz.asI_lst, Dz.asI_tup, Dz.dFJ, Dz.dJs, Dz.dFmt, Dz.Tr.isNil, List.map_cons, List.map_nil, List.length_cons, List.length_nil, List.length_map, List.length_set, List.replicate, Nat.reduceSub, Nat.reduceAdd, List.cons_append, List.nil_append, List.getElem?_cons_zero, List.getElem?_cons_succ, List.set_cons_zero, List.set_cons_succ, if_true, if_false, Bool.false_eq_true, id, Nat.sub_zero, Bool.not_true, Bool.not_false, true_and, and_true, ne_eq, not_false_eq_true, not_true_eq_false, reduceCtorEq, Option.map_some, Option.bind_some, String.reduceBEq, Bool.or_false, Bool.or_true, Bool.false_or, Bool.true_or, Bool.and_true, Bool.and_false, Bool.true_and, Bool.false_and, decide_true, decide_false, List.all_cons, List.all_nil, List.any_cons, List.any_nil, beq_self_eq_true]
      exact hk
    · rw [show (List.filterMap (fun _ => none) (rg 0 (ws.length : Int).toNat) : List D) = [] by simp]
      exact ⟨by decide, rfl, rfl, .of hR⟩
  | lst ws =>
    have hf' : 0 < m ∧ ws.length ≤ 100000 ∧ fits ws (m - 1) := hf
    simp only [Dz.dSeq, Dz.dIf, Dz.dB, Dz.dOp, Dz.dUn, Dz.dVar, Dz.dC, Dz.dRet, Dz.dRetN, Dz.dNx, Dz.dBrk, Dz.dCnt, Dz.dAsg, Dz.dSet, Dz.dPar, Dz.dPar3, Dz.dgT, Dz.dgTt, Dz.dgCons, Dz.dgNil, Dz.dgN, Dz.dCall, Dz.dCons, Dz.dNil, Dz.dTup, Dz.dCB, Dz.dCN, Dz.dF, Dz.dM, Dz.dSz, Dz.dExpr, Dz.dNot, Dz.dAnd, Dz.dOr, Dz.dAndV, Dz.dOrV, Dz.dNotV, Dz.dIfE, Dz.dChain, Dz.dFrz, Dz.dIt, Dz.dRng1, Dz.dRng2, Dz.dSl, Dz.dNoPart, Dz.dPart, Dz.dCat, Dz.dRep, Dz.dLc, Dz.dFor, Dz.dAppend, Dz.dPop, Dz.dPopAt, Dz.rPopAtD, Dz.dSetIx, Dz.dYes, Dz.dRev, Dz.asI, Dz.asQ, Dz.asL, Dz.rIsN, Dz.rIs, Dz.rIsNot, Dz.isNon_d, Dz.isNon_non, Dz.isNon_tup, Dz.isNon_lst, Dz.isNon_str, Dz.isNon_int, Dz.isNon_bl, Dz.isNon_ref, Dz.isNon_dic, Dz.isNon_ty, Dz.rAddU, Dz.rSub, Dz.rMod, Dz.rDiv, Dz.rPow, Dz.rLt, Dz.rLe, Dz.rGt, Dz.rGe, Dz.rEq, Dz.rNe, Dz.rEqv, Dz.rInt2, Dz.rMax2, Dz.rMin2, Dz.rI, Dz.rCmp, Dz.rIxU, Dz.rAbs, Dz.rToInt, Dz.rListU, Dz.rSlU, Dz.trk, Dz.rLenU, Dz.rMulU, Dz.rNeg, Dz.startD, Dz.wipeD, Dz.Tr.d, Dz.Sg.put_M, Dz.Sg.put_n, Dz.Sg.put_pv, Dz.Sg.del_M, Dz.Sg.del_n, Dz.Sg.del_pv, Dz.Mm.put_same, Dz.Mm.put_put, Dz.Sg.put_put, Dz.Mm.put_ne, Dz.Mm.del_ne, Dz.rIsi, Dz.tyN, Dz.tyNames, Dz.isiT, Dz.subT, Dz.tyOk, Dz.tyNames, Dz.pyOf, Dz.toPy, Dz.toPys, Dz.Sg.put_mk, Dz.Sg.del_mk, Dz.spend_M, Dz.spend_pv, Dz.spend_n, Dz.spend_spend, Dz.spend_put, Dz.spend_del, Dz.spNext_iff, Dz.asI_lst, Dz.asI_tup, Dz.dFJ, Dz.dJs, Dz.dFmt, Dz.Tr.isNil, List.map_cons, List.map_nil, List.length_cons, List.length_nil, List.length_map, List.length_set, List.replicate, Nat.reduceSub, Nat.reduceAdd, List.cons_append, List.nil_append, List.getElem?_cons_zero, List.getElem?_cons_succ, List.set_cons_zero, List.set_cons_succ, if_true, if_false, Bool.false_eq_true, id, Nat.sub_zero, Bool.not_true, Bool.not_false, true_and, and_true, ne_eq, not_false_eq_true, not_true_eq_false, reduceCtorEq, Option.map_some, Option.bind_some, String.reduceBEq, Bool.or_false, Bool.or_true, Bool.false_or, Bool.true_or, Bool.and_true, Bool.and_false, Bool.true_and, Bool.false_and, decide_true, decide_false, List.all_cons, List.all_nil, List.any_cons, List.any_nil, beq_self_eq_true, t_law_same]
    refine ⟨by decide, by omega, by omega, ?_⟩
    refine lc_pure (fun _ => none) rfl ?_ (by rw [rg_len, List.length_nil]; omega) ?_
    · rintro x hx k B hk
      obtain ⟨j, hj, rfl⟩ := rg_mem hx
      have hj2 : j < ws.length := by omega
      have e : L2.atI ws (0 + (j : Int)) = some ws[j] := by
        rw [atI_nat (by omega) (by omega), show (0 + (j : Int)).toNat = j by omega]
        simp [hj2]
      simp only [Dz.dSeq, Dz.dIf, Dz.dB, Dz.dOp, Dz.dUn, Dz.dVar, Dz.dC, Dz.dRet, Dz.dRetN, Dz.dNx, Dz.dBrk, Dz.dCnt, Dz.dAsg, Dz.dSet, Dz.dPar, Dz.dPar3, Dz.dgT, Dz.dgTt, Dz.dgCons, Dz.dgNil, Dz.dgN, Dz.dCall, Dz.dCons, Dz.dNil, Dz.dTup, Dz.dCB, Dz.dCN, Dz.dF, Dz.dM, Dz.dSz, Dz.dExpr, Dz.dNot, Dz.dAnd, Dz.dOr, Dz.dAndV, Dz.dOrV, Dz.dNotV, Dz.dIfE, Dz.dChain, Dz.dFrz, Dz.dIt, Dz.dRng1, Dz.dRng2, Dz.dSl, Dz.dNoPart, Dz.dPart, Dz.dCat, Dz.dRep, Dz.dLc, Dz.dFor, Dz.dAppend, Dz.dPop, Dz.dPopAt, Dz.rPopAtD, Dz.dSetIx, Dz.dYes, Dz.dRev, Dz.asI, Dz.asQ, Dz.asL, Dz.rIsN, Dz.rIs, Dz.rIsNot, Dz.isNon_d, Dz.isNon_non, Dz.isNon_tup, Dz.isNon_lst, Dz.isNon_str, Dz.isNon_int, Dz.isNon_bl, Dz.isNon_ref, Dz.isNon_dic, Dz.isNon_ty, Dz.rAddU, Dz.rSub, Dz.rMod, Dz.rDiv, Dz.rPow, Dz.rLt, Dz.rLe, Dz.rGt, Dz.rGe, Dz.rEq, Dz.rNe, Dz.rEqv, Dz.rInt2, Dz.rMax2, Dz.rMin2, Dz.rI, Dz.rCmp, Dz.rIxU, Dz.rAbs, Dz.rToInt, Dz.rListU, Dz.rSlU, Dz.trk, Dz.rLenU, Dz.rMulU, Dz.rNeg, Dz.startD, Dz.wipeD, Dz.Tr.d, Dz.Sg.put_M, Dz.Sg.put_n, Dz.Sg.put_pv, Dz.Sg.del_M, Dz.Sg.del_n, Dz.Sg.del_pv, Dz.Mm.put_same, Dz.Mm.put_put, Dz.Sg.put_put, Dz.Mm.put_ne, Dz.Mm.del_ne, Dz.rIsi, Dz.tyN, Dz.tyNames, Dz.isiT, Dz.subT, Dz.tyOk, Dz.tyNames, Dz.pyOf, Dz.toPy, Dz.toPys, Dz.Sg.put_mk, Dz.Sg.del_mk, Dz.spend_M, Dz.spend_pv, Dz.spend_n, Dz.spend_spend, Dz.spend_put, Dz.spend_del, Dz.spNext_iff, Dz.asI_lst, Dz.asI_tup, Dz.dFJ, Dz.dJs, Dz.dFmt, Dz.Tr.isNil, List.map_cons, List.map_nil, List.length_cons, List.length_nil, List.length_map, List.length_set, List.replicate, Nat.reduceSub, Nat.reduceAdd, List.cons_append, List.nil_append, List.getElem?_cons_zero, List.getElem?_cons_succ, List.set_cons_zero, List.set_cons_succ, if_true, if_false, Bool.false_eq_true, id, Nat.sub_zero, Bool.not_true, Bool.not_false, true_and, and_true, ne_eq, not_false_eq_true, not_true_eq_false, reduceCtorEq, Option.map_some, Option.bind_some, String.reduceBEq, Bool.or_false, Bool.or_true, Bool.false_or, Bool.true_or, Bool.and_true, Bool.and_false, Bool.true_and, Bool.false_and, decide_true, decide_false, List.all_cons, List.all_nil, List.any_cons, List.any_nil, beq_self_eq_true, e]
      refine ⟨ws[j], m - 1, rfl, fits_mem hf'.2.2 (List.getElem_mem _), by omega, by omega, ?_⟩
      simp only [Dz.dSeq, Dz.dIf, Dz.dB, Dz.dOp, Dz.dUn, Dz.dVar, Dz.dC, Dz.dRet, Dz.dRetN, Dz.dNx, Dz.dBrk, Dz.dCnt, Dz.dAsg, Dz.dSet, Dz.dPar, Dz.dPar3, Dz.dgT, Dz.dgTt, Dz.dgCons, Dz.dgNil, Dz.dgN, Dz.dCall, Dz.dCons, Dz.dNil, Dz.dTup, Dz.dCB, Dz.dCN, Dz.dF, Dz.dM, Dz.dSz, Dz.dExpr, Dz.dNot, Dz.dAnd, Dz.dOr, Dz.dAndV, Dz.dOrV, Dz.dNotV, Dz.dIfE, Dz.dChain, Dz.dFrz, Dz.dIt, Dz.dRng1, Dz.dRng2, Dz.dSl, Dz.dNoPart, Dz.dPart, Dz.dCat, Dz.dRep, Dz.dLc, Dz.dFor, Dz.dAppend, Dz.dPop, Dz.dPopAt, Dz.rPopAtD, Dz.dSetIx, Dz.dYes, Dz.dRev, Dz.asI, Dz.asQ, Dz.asL, Dz.rIsN, Dz.rIs, Dz.rIsNot, Dz.isNon_d, Dz.isNon_non, Dz.isNon_tup, Dz.isNon_lst, Dz.isNon_str, Dz.isNon_int, Dz.isNon_bl, Dz.isNon_ref, Dz.isNon_dic, Dz.isNon_ty, Dz.rAddU, Dz.rSub, Dz.rMod, Dz.rDiv, Dz.rPow, Dz.rLt, Dz.rLe, Dz.rGt, Dz.rGe, Dz.rEq, Dz.rNe, Dz.rEqv, Dz.rInt2, Dz.rMax2, Dz.rMin2, Dz.rI, Dz.rCmp, Dz.rIxU, Dz.rAbs, Dz.rToInt, Dz.rListU, Dz.rSlU, Dz.trk, Dz.rLenU, Dz.rMulU, Dz.rNeg, Dz.startD, Dz.wipeD, Dz.Tr.d, Dz.Sg.put_M, Dz.Sg.put_n, Dz.Sg.put_pv, Dz.Sg.del_M, Dz.Sg.del_n, Dz.Sg.del_pv, Dz.Mm.put_same, Dz.Mm.put_put, Dz.Sg.put_put, Dz.Mm.put_ne, Dz.Mm.del_ne, Dz.rIsi, Dz.tyN, Dz.tyNames, Dz.isiT, Dz.subT, Dz.tyOk, Dz.tyNames, Dz.pyOf, Dz.toPy, Dz.toPys, Dz.Sg.put_mk, Dz.Sg.del_mk, Dz.spend_M, Dz.spend_pv, Dz.spend_n, Dz.spend_spend, Dz.spend_put, Dz.spend_del, Dz.spNext_iff, Dz.asI_lst, Dz.asI_tup, Dz.dFJ, Dz.dJs, Dz.dFmt, Dz.Tr.isNil, List.map_cons, List.map_nil, List.length_cons, List.length_nil, List.length_map, List.length_set, List.replicate, Nat.reduceSub, Nat.reduceAdd, List.cons_append, List.nil_append, List.getElem?_cons_zero, List.getElem?_cons_succ, List.set_cons_zero, List.set_cons_succ, if_true, if_false, Bool.false_eq_true, id, Nat.sub_zero, Bool.not_true, Bool.not_false, true_and, and_true, ne_eq, not_false_eq_true, not_true_eq_false, reduceCtorEq, Option.map_some, Option.bind_some, String.reduceBEq, Bool.or_false, Bool.or_true, Bool.false_or, Bool.true_or, Bool.and_true, Bool.and_false, Bool.true_and, Bool.false_and, decide_true, decide_false, List.all_cons, List.all_nil, List.any_cons, List.any_nil, beq_self_eq_true]
      exact hk
    · rw [show (List.filterMap (fun _ => none) (rg 0 (ws.length : Int).toNat) : List D) = [] by simp]
      exact ⟨by decide, rfl, rfl, .of hR⟩
  | dic _ _ => exact hf.elim
  | ref _ => exact hf.elim
  | ty _ => exact hf.elim
end Pr
namespace Pr
open PySem PySem.Spec PyProof.Rows L2 Dz
theorem e_mirrored (n : Nat) : ∀ ws s R, spT (fun t => t.mir.d) (n + 1) ws s R X0 → ws.length = 1 ∧ t_mirrored (spT (fun t => t.mir.d) n) { nx := fun _ s' => Lw R .non s', rt := Lw R } (Dz.startD N_mirrored ws) s := by
  rintro ws s R ⟨t, rfl, hd, hR⟩
  refine ⟨rfl, ?_⟩
  cases t with
  | nil =>
    simp only [Dz.dSeq, Dz.dIf, Dz.dB, Dz.dOp, Dz.dUn, Dz.dVar, Dz.dC, Dz.dRet, Dz.dRetN, Dz.dNx, Dz.dBrk, Dz.dCnt, Dz.dAsg, Dz.dSet, Dz.dPar, Dz.dPar3, Dz.dgT, Dz.dgTt, Dz.dgCons, Dz.dgNil, Dz.dgN, Dz.dCall, Dz.dCons, Dz.dNil, Dz.dTup, Dz.dCB, Dz.dCN, Dz.dF, Dz.dM, Dz.dSz, Dz.dExpr, Dz.dNot, Dz.dAnd, Dz.dOr, Dz.dAndV, Dz.dOrV, Dz.dNotV, Dz.dIfE, Dz.dChain, Dz.dFrz, Dz.dIt, Dz.dRng1, Dz.dRng2, Dz.dSl, Dz.dNoPart, Dz.dPart, Dz.dCat, Dz.dRep, Dz.dLc, Dz.dFor, Dz.dAppend, Dz.dPop, Dz.dPopAt, Dz.rPopAtD, Dz.dSetIx, Dz.dYes, Dz.dRev, Dz.asI, Dz.asQ, Dz.asL, Dz.rIsN, Dz.rIs, Dz.rIsNot, Dz.isNon_d, Dz.isNon_non, Dz.isNon_tup, Dz.isNon_lst, Dz.isNon_str, Dz.isNon_int, Dz.isNon_bl, Dz.isNon_ref, Dz.isNon_dic, Dz.isNon_ty, Dz.rAddU, Dz.rSub, Dz.rMod, Dz.rDiv, Dz.rPow, Dz.rLt, Dz.rLe, Dz.rGt, Dz.rGe, Dz.rEq, Dz.rNe, Dz.rEqv, Dz.rInt2, Dz.rMax2, Dz.rMin2, Dz.rI, Dz.rCmp, Dz.rIxU, Dz.rAbs, Dz.rToInt, Dz.rListU, Dz.rSlU, Dz.trk, Dz.rLenU, Dz.rMulU, Dz.rNeg, Dz.startD, Dz.wipeD, Dz.Tr.d, Dz.Sg.put_M, Dz.Sg.put_n, Dz.Sg.put_pv, Dz.Sg.del_M, Dz.Sg.del_n, Dz.Sg.del_pv, Dz.Mm.put_same, Dz.Mm.put_put, Dz.Sg.put_put, Dz.Mm.put_ne, Dz.Mm.del_ne, Dz.rIsi, Dz.tyN, Dz.tyNames, Dz.isiT, Dz.subT, Dz.tyOk, Dz.tyNames, Dz.pyOf, Dz.toPy, Dz.toPys, Dz.Sg.put_mk, Dz.Sg.del_mk, Dz.spend_M, Dz.spend_pv, Dz.spend_n, Dz.spend_spend, Dz.spend_put, Dz.spend_del, Dz.spNext_iff, Dz.asI_lst, Dz.asI_tup, Dz.dFJ, Dz.dJs, Dz.dFmt, Dz.Tr.isNil, List.map_cons, List.map_nil, List.length_cons, List.length_nil, List.length_map, List.length_set, List.replicate, Nat.reduceSub, Nat.reduceAdd, List.cons_append, List.nil_append, List.getElem?_cons_zero, List.getElem?_cons_succ, List.set_cons_zero, List.set_cons_succ, if_true, if_false, Bool.false_eq_true, id, Nat.sub_zero, Bool.not_true, Bool.not_false, true_and, and_true, ne_eq, not_false_eq_true, not_true_eq_false, reduceCtorEq, Option.map_some, Option.bind_some, String.reduceBEq, Bool.or_false, Bool.or_true, Bool.false_or, Bool.true_or, Bool.and_true, Bool.and_false, Bool.true_and, Bool.false_and, decide_true, decide_false, List.all_cons, List.all_nil, List.any_cons, List.any_nil, beq_self_eq_true, t_mirrored]
    exact .of hR
  | node l a r =>
    simp only [Dz.dSeq, Dz.dIf, Dz.dB, Dz.dOp, Dz.dUn, Dz.dVar, Dz.dC, Dz.dRet, Dz.dRetN, Dz.dNx, Dz.dBrk, Dz.dCnt, Dz.dAsg, Dz.dSet, Dz.dPar, Dz.dPar3, Dz.dgT, Dz.dgTt, Dz.dgCons, Dz.dgNil, Dz.dgN, Dz.dCall, Dz.dCons, Dz.dNil, Dz.dTup, Dz.dCB, Dz.dCN, Dz.dF, Dz.dM, Dz.dSz, Dz.dExpr, Dz.dNot, Dz.dAnd, Dz.dOr, Dz.dAndV, Dz.dOrV, Dz.dNotV, Dz.dIfE, Dz.dChain, Dz.dFrz, Dz.dIt, Dz.dRng1, Dz.dRng2, Dz.dSl, Dz.dNoPart, Dz.dPart, Dz.dCat, Dz.dRep, Dz.dLc, Dz.dFor, Dz.dAppend, Dz.dPop, Dz.dPopAt, Dz.rPopAtD, Dz.dSetIx, Dz.dYes, Dz.dRev, Dz.asI, Dz.asQ, Dz.asL, Dz.rIsN, Dz.rIs, Dz.rIsNot, Dz.isNon_d, Dz.isNon_non, Dz.isNon_tup, Dz.isNon_lst, Dz.isNon_str, Dz.isNon_int, Dz.isNon_bl, Dz.isNon_ref, Dz.isNon_dic, Dz.isNon_ty, Dz.rAddU, Dz.rSub, Dz.rMod, Dz.rDiv, Dz.rPow, Dz.rLt, Dz.rLe, Dz.rGt, Dz.rGe, Dz.rEq, Dz.rNe, Dz.rEqv, Dz.rInt2, Dz.rMax2, Dz.rMin2, Dz.rI, Dz.rCmp, Dz.rIxU, Dz.rAbs, Dz.rToInt, Dz.rListU, Dz.rSlU, Dz.trk, Dz.rLenU, Dz.rMulU, Dz.rNeg, Dz.startD, Dz.wipeD, Dz.Tr.d, Dz.Sg.put_M, Dz.Sg.put_n, Dz.Sg.put_pv, Dz.Sg.del_M, Dz.Sg.del_n, Dz.Sg.del_pv, Dz.Mm.put_same, Dz.Mm.put_put, Dz.Sg.put_put, Dz.Mm.put_ne, Dz.Mm.del_ne, Dz.rIsi, Dz.tyN, Dz.tyNames, Dz.isiT, Dz.subT, Dz.tyOk, Dz.tyNames, Dz.pyOf, Dz.toPy, Dz.toPys, Dz.Sg.put_mk, Dz.Sg.del_mk, Dz.spend_M, Dz.spend_pv, Dz.spend_n, Dz.spend_spend, Dz.spend_put, Dz.spend_del, Dz.spNext_iff, Dz.asI_lst, Dz.asI_tup, Dz.dFJ, Dz.dJs, Dz.dFmt, Dz.Tr.isNil, List.map_cons, List.map_nil, List.length_cons, List.length_nil, List.length_map, List.length_set, List.replicate, Nat.reduceSub, Nat.reduceAdd, List.cons_append, List.nil_append, List.getElem?_cons_zero, List.getElem?_cons_succ, List.set_cons_zero, List.set_cons_succ, if_true, if_false, Bool.false_eq_true, id, Nat.sub_zero, Bool.not_true, Bool.not_false, true_and, and_true, ne_eq, not_false_eq_true, not_true_eq_false, reduceCtorEq, Option.map_some, Option.bind_some, String.reduceBEq, Bool.or_false, Bool.or_true, Bool.false_or, Bool.true_or, Bool.and_true, Bool.and_false, Bool.true_and, Bool.false_and, decide_true, decide_false, List.all_cons, List.all_nil, List.any_cons, List.any_nil, beq_self_eq_true, t_mirrored, spT_iff]
    simp only [Tr.depth] at hd
    exact ⟨by omega, by omega, by decide, .of hR⟩
/-! the text -/
def tx : Tr → List Nat
  | .nil => [45]
  | .node .nil a .nil => [a]
  | .node l a r => a :: 40 :: (tx l ++ 44 :: (tx r ++ [41]))
theorem tx_node {l r : Tr} {a : Nat} (h : ¬ (l = .nil ∧ r = .nil)) : tx (.node l a r) = a :: 40 :: (tx l ++ 44 :: (tx r ++ [41])) := by
  cases l <;> cases r <;> first | rfl | exact absurd ⟨rfl, rfl⟩ h
theorem tx_len : ∀ t : Tr, (tx t).length ≤ 6 * t.size + 1
  | .nil => by simp [tx]
  | .node l a r => by
    have h1 := tx_len l
    have h2 := tx_len r
    by_cases h : l = .nil ∧ r = .nil
    · obtain ⟨rfl, rfl⟩ := h; simp [tx, Tr.size]
    · rw [tx_node h]
      simp only [List.length_cons, List.length_append, List.length_nil, Tr.size]
      omega
/-- what stands behind: no opening sign -/
def nop : List Nat → Prop
  | 40 :: _ => False
  | _ => True
theorem tx_cut : ∀ (t u : Tr) (x y : List Nat), t.all Lt → u.all Lt → nop x → nop y → tx t ++ x = tx u ++ y → t = u ∧ x = y
  | .nil, .nil, x, y, _, _, _, _, h => by simpa [tx] using h
  | .nil, .node l a r, x, y, _, hu, _, _, h => by
    have ha := hu.2.1
    unfold Lt at ha
    by_cases e : l = .nil ∧ r = .nil
    · obtain ⟨rfl, rfl⟩ := e
      simp [tx] at h; omega
    · rw [tx_node e] at h
      simp [tx] at h; omega
  | .node l a r, .nil, x, y, hu, _, _, _, h => by
    have ha := hu.2.1
    unfold Lt at ha
    by_cases e : l = .nil ∧ r = .nil
    · obtain ⟨rfl, rfl⟩ := e
      simp [tx] at h; omega
    · rw [tx_node e] at h
      simp [tx] at h; omega
  | .node l a r, .node l' a' r', x, y, ht, hu, hx, hy, h => by
    by_cases e : l = .nil ∧ r = .nil
    · by_cases e' : l' = .nil ∧ r' = .nil
      · obtain ⟨rfl, rfl⟩ := e
        obtain ⟨rfl, rfl⟩ := e'
        simp [tx] at h
        rw [h.1]; exact ⟨rfl, h.2⟩
      · obtain ⟨rfl, rfl⟩ := e
        rw [tx_node e'] at h
        simp [tx] at h
        rw [h.2] at hx
        exact hx.elim
    · by_cases e' : l' = .nil ∧ r' = .nil
      · obtain ⟨rfl, rfl⟩ := e'
        rw [tx_node e] at h
        simp [tx] at h
        rw [← h.2] at hy
        exact hy.elim
      · rw [tx_node e, tx_node e'] at h
        simp only [List.cons_append, List.cons.injEq, true_and, List.append_assoc] at h
        obtain ⟨rfl, h⟩ := h
        obtain ⟨e1, h1⟩ := tx_cut l l' (44 :: _) (44 :: _) ht.1 hu.1 trivial trivial h
        obtain ⟨e2, h2⟩ := tx_cut r r' (41 :: _) (41 :: _) ht.2.2 hu.2.2 trivial trivial (List.cons.inj h1).2
        rw [e1, e2]
        exact ⟨rfl, (List.cons.inj h2).2⟩
theorem tx_inj {t u : Tr} (ht : t.all Lt) (hu : u.all Lt) : tx t = tx u ↔ t = u :=
  ⟨fun h => (tx_cut t u [] [] ht hu trivial trivial (by rw [List.append_nil, List.append_nil]; exact h)).1, fun h => by rw [h]⟩
def nn : Tr → Prop
  | .nil => False
  | .node _ _ _ => True
def dtx (t : Tr) : D := .str (mkS (tx t))
def spTx (n : Nat) : SpD := fun ws s R _ => ∃ t : Tr, ws = [t.d] ∧ t.depth < n ∧ t.size ≤ 1000 ∧ R (dtx t) s
def spTt (n : Nat) : SpD := fun ws s R _ => ∃ t : Tr, ws = [t.d] ∧ nn t ∧ t.depth < n ∧ t.size ≤ 1000 ∧ R (dtx t) s
theorem spTx_iff {n : Nat} {t : Tr} {s : Sg} {R : KD} {E : XD} : spTx n [t.d] s R E ↔ t.depth < n ∧ t.size ≤ 1000 ∧ R (dtx t) s := by
  constructor
  · rintro ⟨u, e, h⟩
    simp only [List.cons.injEq, and_true] at e
    rw [Tr.d_inj e]
    exact h
  · exact fun h => ⟨t, rfl, h⟩
theorem spTt_iff {n : Nat} {t : Tr} {s : Sg} {R : KD} {E : XD} : spTt n [t.d] s R E ↔ nn t ∧ t.depth < n ∧ t.size ≤ 1000 ∧ R (dtx t) s := by
  constructor
  · rintro ⟨u, e, h⟩
    simp only [List.cons.injEq, and_true] at e
    rw [Tr.d_inj e]
    exact h
  · exact fun h => ⟨t, rfl, h⟩
theorem s1 : (Str.ofString "(") = mkS [40] := by decide +kernel
theorem s2 : (Str.ofString ",") = mkS [44] := by decide +kernel
theorem s3 : (Str.ofString ")") = mkS [41] := by decide +kernel
theorem s4 : (Str.ofString "-") = mkS [45] := by decide +kernel
theorem s5 : (Str.ofString "q") = mkS [113] := by decide +kernel
theorem e_child_text (n : Nat) : ∀ ws s R, spTx n ws s R X0 → ws.length = 1 ∧ t_child_text (spTt n) { nx := fun _ s' => Lw R .non s', rt := Lw R } (Dz.startD N_child_text ws) s := by
  rintro ws s R ⟨t, rfl, hd, hz, hR⟩
  refine ⟨rfl, ?_⟩
  cases t with
  | nil =>
    simp only [Dz.dSeq, Dz.dIf, Dz.dB, Dz.dOp, Dz.dUn, Dz.dVar, Dz.dC, Dz.dRet, Dz.dRetN, Dz.dNx, Dz.dBrk, Dz.dCnt, Dz.dAsg, Dz.dSet, Dz.dPar, Dz.dPar3, Dz.dgT, Dz.dgTt, Dz.dgCons, Dz.dgNil, Dz.dgN, Dz.dCall, Dz.dCons, Dz.dNil, Dz.dTup, Dz.dCB, Dz.dCN, Dz.dF, Dz.dM, Dz.dSz, Dz.dExpr, Dz.dNot, Dz.dAnd, Dz.dOr, Dz.dAndV, Dz.dOrV, Dz.dNotV, Dz.dIfE, Dz.dChain, Dz.dFrz, Dz.dIt, Dz.dRng1, Dz.dRng2, Dz.dSl, Dz.dNoPart, Dz.dPart, Dz.dCat, Dz.dRep, Dz.dLc, Dz.dFor, Dz.dAppend, Dz.dPop, Dz.dPopAt, Dz.rPopAtD, Dz.dSetIx, Dz.dYes, Dz.dRev, Dz.asI, Dz.asQ, Dz.asL, Dz.rIsN, Dz.rIs, Dz.rIsNot, Dz.isNon_d, Dz.isNon_non, Dz.isNon_tup, Dz.isNon_lst, Dz.isNon_str, Dz.isNon_int, Dz.isNon_bl, Dz.isNon_ref, Dz.isNon_dic, Dz.isNon_ty, Dz.rAddU, Dz.rSub, Dz.rMod, Dz.rDiv, Dz.rPow, Dz.rLt, Dz.rLe, Dz.rGt, Dz.rGe, Dz.rEq, Dz.rNe, Dz.rEqv, Dz.rInt2, Dz.rMax2, Dz.rMin2, Dz.rI, Dz.rCmp, Dz.rIxU, Dz.rAbs, Dz.rToInt, Dz.rListU, Dz.rSlU, Dz.trk, Dz.rLenU, Dz.rMulU, Dz.rNeg, Dz.startD, Dz.wipeD, Dz.Tr.d, Dz.Sg.put_M, Dz.Sg.put_n, Dz.Sg.put_pv, Dz.Sg.del_M, Dz.Sg.del_n, Dz.Sg.del_pv, Dz.Mm.put_same, Dz.Mm.put_put, Dz.Sg.put_put, Dz.Mm.put_ne, Dz.Mm.del_ne, Dz.rIsi, Dz.tyN, Dz.tyNames, Dz.isiT, Dz.subT, Dz.tyOk, Dz.tyNames, Dz.pyOf, Dz.toPy, Dz.toPys, Dz.Sg.put_mk, Dz.Sg.del_mk, Dz.spend_M, Dz.spend_pv, Dz.spend_n, Dz.spend_spend, Dz.spend_put, Dz.spend_del, Dz.spNext_iff, Dz.asI_lst, Dz.asI_tup, Dz.dFJ, Dz.dJs, Dz.dFmt, Dz.Tr.isNil, List.map_cons, List.map_nil, List.length_cons, List.length_nil, List.length_map, List.length_set, List.replicate, Nat.reduceSub, Nat.reduceAdd, List.cons_append, List.nil_append, List.getElem?_cons_zero, List.getElem?_cons_succ, List.set_cons_zero, List.set_cons_succ, if_true, if_false, Bool.false_eq_true, id, Nat.sub_zero, Bool.not_true, Bool.not_false, true_and, and_true, ne_eq, not_false_eq_true, not_true_eq_false, reduceCtorEq, Option.map_some, Option.bind_some, String.reduceBEq, Bool.or_false, Bool.or_true, Bool.false_or, Bool.true_or, Bool.and_true, Bool.and_false, Bool.true_and, Bool.false_and, decide_true, decide_false, List.all_cons, List.all_nil, List.any_cons, List.any_nil, beq_self_eq_true, t_child_text, s4]
    exact .of hR
  | node l a r =>
    simp only [Dz.dSeq, Dz.dIf, Dz.dB, Dz.dOp, Dz.dUn, Dz.dVar, Dz.dC, Dz.dRet, Dz.dRetN, Dz.dNx, Dz.dBrk, Dz.dCnt, Dz.dAsg, Dz.dSet, Dz.dPar, Dz.dPar3, Dz.dgT, Dz.dgTt, Dz.dgCons, Dz.dgNil, Dz.dgN, Dz.dCall, Dz.dCons, Dz.dNil, Dz.dTup, Dz.dCB, Dz.dCN, Dz.dF, Dz.dM, Dz.dSz, Dz.dExpr, Dz.dNot, Dz.dAnd, Dz.dOr, Dz.dAndV, Dz.dOrV, Dz.dNotV, Dz.dIfE, Dz.dChain, Dz.dFrz, Dz.dIt, Dz.dRng1, Dz.dRng2, Dz.dSl, Dz.dNoPart, Dz.dPart, Dz.dCat, Dz.dRep, Dz.dLc, Dz.dFor, Dz.dAppend, Dz.dPop, Dz.dPopAt, Dz.rPopAtD, Dz.dSetIx, Dz.dYes, Dz.dRev, Dz.asI, Dz.asQ, Dz.asL, Dz.rIsN, Dz.rIs, Dz.rIsNot, Dz.isNon_d, Dz.isNon_non, Dz.isNon_tup, Dz.isNon_lst, Dz.isNon_str, Dz.isNon_int, Dz.isNon_bl, Dz.isNon_ref, Dz.isNon_dic, Dz.isNon_ty, Dz.rAddU, Dz.rSub, Dz.rMod, Dz.rDiv, Dz.rPow, Dz.rLt, Dz.rLe, Dz.rGt, Dz.rGe, Dz.rEq, Dz.rNe, Dz.rEqv, Dz.rInt2, Dz.rMax2, Dz.rMin2, Dz.rI, Dz.rCmp, Dz.rIxU, Dz.rAbs, Dz.rToInt, Dz.rListU, Dz.rSlU, Dz.trk, Dz.rLenU, Dz.rMulU, Dz.rNeg, Dz.startD, Dz.wipeD, Dz.Sg.put_M, Dz.Sg.put_n, Dz.Sg.put_pv, Dz.Sg.del_M, Dz.Sg.del_n, Dz.Sg.del_pv, Dz.Mm.put_same, Dz.Mm.put_put, Dz.Sg.put_put, Dz.Mm.put_ne, Dz.Mm.del_ne, Dz.rIsi, Dz.tyN, Dz.tyNames, Dz.isiT, Dz.subT, Dz.tyOk, Dz.tyNames, Dz.pyOf, Dz.toPy, Dz.toPys, Dz.Sg.put_mk, Dz.Sg.del_mk, Dz.spend_M, Dz.spend_pv, Dz.spend_n, Dz.spend_spend, Dz.spend_put, Dz.spend_del, Dz.spNext_iff, Dz.asI_lst, Dz.asI_tup, Dz.dFJ, Dz.dJs, Dz.dFmt, Dz.Tr.isNil, List.map_cons, List.map_nil, List.length_cons, List.length_nil, List.length_map, List.length_set, List.replicate, Nat.reduceSub, Nat.reduceAdd, List.cons_append, List.nil_append, List.getElem?_cons_zero, List.getElem?_cons_succ, List.set_cons_zero, List.set_cons_succ, if_true, if_false, Bool.false_eq_true, id, Nat.sub_zero, Bool.not_true, Bool.not_false, true_and, and_true, ne_eq, not_false_eq_true, not_true_eq_false, reduceCtorEq, Option.map_some, Option.bind_some, String.reduceBEq, Bool.or_false, Bool.or_true, Bool.false_or, Bool.true_or, Bool.and_true, Bool.and_false, Bool.true_and, Bool.false_and, decide_true, decide_false, List.all_cons, List.all_nil, List.any_cons, List.any_nil, beq_self_eq_true, t_child_text]
    exact (spTt_iff (E := X0)).mpr ⟨trivial, hd, hz, .of hR⟩
theorem e_tree_text (n : Nat) : ∀ ws s R, spTt (n + 1) ws s R X0 → ws.length = 1 ∧ t_tree_text (spTx n) { nx := fun _ s' => Lw R .non s', rt := Lw R } (Dz.startD N_tree_text ws) s := by
  rintro ws s R ⟨t, rfl, hnn, hd, hz, hR⟩
  refine ⟨rfl, ?_⟩
  cases t with
  | nil => exact hnn.elim
  | node l a r =>
    simp only [Tr.depth, Tr.size] at hd hz
    have h1 := tx_len l
    have h2 := tx_len r
    have g1 : ¬ (l = .nil ∧ r = .nil) → Lw R (.str (mkS (a :: 40 :: (tx l ++ 44 :: (tx r ++ [41]))))) s := fun e => by
      rw [← tx_node e]; exact .of hR
    simp only [Dz.dSeq, Dz.dIf, Dz.dB, Dz.dOp, Dz.dUn, Dz.dVar, Dz.dC, Dz.dRet, Dz.dRetN, Dz.dNx, Dz.dBrk, Dz.dCnt, Dz.dAsg, Dz.dSet, Dz.dPar, Dz.dPar3, Dz.dgT, Dz.dgTt, Dz.dgCons, Dz.dgNil, Dz.dgN, Dz.dCall, Dz.dCons, Dz.dNil, Dz.dTup, Dz.dCB, Dz.dCN, Dz.dF, Dz.dM, Dz.dSz, Dz.dExpr, Dz.dNot, Dz.dAnd, Dz.dOr, Dz.dAndV, Dz.dOrV, Dz.dNotV, Dz.dIfE, Dz.dChain, Dz.dFrz, Dz.dIt, Dz.dRng1, Dz.dRng2, Dz.dSl, Dz.dNoPart, Dz.dPart, Dz.dCat, Dz.dRep, Dz.dLc, Dz.dFor, Dz.dAppend, Dz.dPop, Dz.dPopAt, Dz.rPopAtD, Dz.dSetIx, Dz.dYes, Dz.dRev, Dz.asI, Dz.asQ, Dz.asL, Dz.rIsN, Dz.rIs, Dz.rIsNot, Dz.isNon_d, Dz.isNon_non, Dz.isNon_tup, Dz.isNon_lst, Dz.isNon_str, Dz.isNon_int, Dz.isNon_bl, Dz.isNon_ref, Dz.isNon_dic, Dz.isNon_ty, Dz.rAddU, Dz.rSub, Dz.rMod, Dz.rDiv, Dz.rPow, Dz.rLt, Dz.rLe, Dz.rGt, Dz.rGe, Dz.rEq, Dz.rNe, Dz.rEqv, Dz.rInt2, Dz.rMax2, Dz.rMin2, Dz.rI, Dz.rCmp, Dz.rIxU, Dz.rAbs, Dz.rToInt, Dz.rListU, Dz.rSlU, Dz.trk, Dz.rLenU, Dz.rMulU, Dz.rNeg, Dz.startD, Dz.wipeD, Dz.Tr.d, Dz.Sg.put_M, Dz.Sg.put_n, Dz.Sg.put_pv, Dz.Sg.del_M, Dz.Sg.del_n, Dz.Sg.del_pv, Dz.Mm.put_same, Dz.Mm.put_put, Dz.Sg.put_put, Dz.Mm.put_ne, Dz.Mm.del_ne, Dz.rIsi, Dz.tyN, Dz.tyNames, Dz.isiT, Dz.subT, Dz.tyOk, Dz.tyNames, Dz.pyOf, Dz.toPy, Dz.toPys, Dz.Sg.put_mk, Dz.Sg.del_mk, Dz.spend_M, Dz.spend_pv, Dz.spend_n, Dz.spend_spend, Dz.spend_put, Dz.spend_del, Dz.spNext_iff, Dz.asI_lst, Dz.asI_tup, Dz.dFJ, Dz.dJs, Dz.dFmt, Dz.Tr.isNil, List.map_cons, List.map_nil, List.length_cons, List.length_nil, List.length_map, List.length_set, List.replicate, Nat.reduceSub, Nat.reduceAdd, List.cons_append, List.nil_append, List.getElem?_cons_zero, List.getElem?_cons_succ, List.set_cons_zero, List.set_cons_succ, if_true, if_false, Bool.false_eq_true, id, Nat.sub_zero, Bool.not_true, Bool.not_false, true_and, and_true, ne_eq, not_false_eq_true, not_true_eq_false, reduceCtorEq, Option.map_some, Option.bind_some, String.reduceBEq, Bool.or_false, Bool.or_true, Bool.false_or, Bool.true_or, Bool.and_true, Bool.and_false, Bool.true_and, Bool.false_and, decide_true, decide_false, List.all_cons, List.all_nil, List.any_cons, List.any_nil, beq_self_eq_true, t_tree_text, s1, s2, s3, spTx_iff]
    by_cases e : l = .nil ∧ r = .nil
    · obtain ⟨rfl, rfl⟩ := e
      simp only [Dz.dSeq, Dz.dIf, Dz.dB, Dz.dOp, Dz.dUn, Dz.dVar, Dz.dC, Dz.dRet, Dz.dRetN, Dz.dNx, Dz.dBrk, Dz.dCnt, Dz.dAsg, Dz.dSet, Dz.dPar, Dz.dPar3, Dz.dgT, Dz.dgTt, Dz.dgCons, Dz.dgNil, Dz.dgN, Dz.dCall, Dz.dCons, Dz.dNil, Dz.dTup, Dz.dCB, Dz.dCN, Dz.dF, Dz.dM, Dz.dSz, Dz.dExpr, Dz.dNot, Dz.dAnd, Dz.dOr, Dz.dAndV, Dz.dOrV, Dz.dNotV, Dz.dIfE, Dz.dChain, Dz.dFrz, Dz.dIt, Dz.dRng1, Dz.dRng2, Dz.dSl, Dz.dNoPart, Dz.dPart, Dz.dCat, Dz.dRep, Dz.dLc, Dz.dFor, Dz.dAppend, Dz.dPop, Dz.dPopAt, Dz.rPopAtD, Dz.dSetIx, Dz.dYes, Dz.dRev, Dz.asI, Dz.asQ, Dz.asL, Dz.rIsN, Dz.rIs, Dz.rIsNot, Dz.isNon_d, Dz.isNon_non, Dz.isNon_tup, Dz.isNon_lst, Dz.isNon_str, Dz.isNon_int, Dz.isNon_bl, Dz.isNon_ref, Dz.isNon_dic, Dz.isNon_ty, Dz.rAddU, Dz.rSub, Dz.rMod, Dz.rDiv, Dz.rPow, Dz.rLt, Dz.rLe, Dz.rGt, Dz.rGe, Dz.rEq, Dz.rNe, Dz.rEqv, Dz.rInt2, Dz.rMax2, Dz.rMin2, Dz.rI, Dz.rCmp, Dz.rIxU, Dz.rAbs, Dz.rToInt, Dz.rListU, Dz.rSlU, Dz.trk, Dz.rLenU, Dz.rMulU, Dz.rNeg, Dz.startD, Dz.wipeD, Dz.Tr.d, Dz.Sg.put_M, Dz.Sg.put_n, Dz.Sg.put_pv, Dz.Sg.del_M, Dz.Sg.del_n, Dz.Sg.del_pv, Dz.Mm.put_same, Dz.Mm.put_put, Dz.Sg.put_put, Dz.Mm.put_ne, Dz.Mm.del_ne, Dz.rIsi, Dz.tyN, Dz.tyNames, Dz.isiT, Dz.subT, Dz.tyOk, Dz.tyNames, Dz.pyOf, Dz.toPy, Dz.toPys, Dz.Sg.put_mk, Dz.Sg.del_mk, Dz.spend_M, Dz.spend_pv, Dz.spend_n, Dz.spend_spend, Dz.spend_put, Dz.spend_del, Dz.spNext_iff, Dz.asI_lst, Dz.asI_tup, Dz.dFJ, Dz.dJs, Dz.dFmt, Dz.Tr.isNil, List.map_cons, List.map_nil, List.length_cons, List.length_nil, List.length_map, List.length_set, List.replicate, Nat.reduceSub, Nat.reduceAdd, List.cons_append, List.nil_append, List.getElem?_cons_zero, List.getElem?_cons_succ, List.set_cons_zero, List.set_cons_succ, if_true, if_false, Bool.false_eq_true, id, Nat.sub_zero, Bool.not_true, Bool.not_false, true_and, and_true, ne_eq, not_false_eq_true, not_true_eq_false, reduceCtorEq, Option.map_some, Option.bind_some, String.reduceBEq, Bool.or_false, Bool.or_true, Bool.false_or, Bool.true_or, Bool.and_true, Bool.and_false, Bool.true_and, Bool.false_and, decide_true, decide_false, List.all_cons, List.all_nil, List.any_cons, List.any_nil, beq_self_eq_true]
      exact .of hR
    · have g3 := g1 e
      have hh : ∀ {A B : Prop}, B → (if l.isNil = true then (if r.isNil = true then A else B) else B) := fun {A B} hB => by
        split
        · split
          · exact absurd ⟨Tr.isNil_iff.mp (by assumption), Tr.isNil_iff.mp (by assumption)⟩ e
          · exact hB
        · exact hB
      refine hh ?_
      simp only [dtx, chr_mk, empty_mk, mkS_app, mkS_len, List.nil_append, List.cons_append, List.append_assoc, List.length_cons, List.length_nil, List.length_append]
      exact ⟨by omega, by omega, by omega, by omega, by omega, by omega, by omega, by omega, by omega, by omega, by omega, by omega, by omega, by omega, by omega, by omega, g3⟩
theorem e_law_text (n : Nat) : ∀ ws s R, spTx (n + 1) ws s R X0 → ws.length = 1 ∧ t_law_text (spTx n) { nx := fun _ s' => Lw R .non s', rt := Lw R } (Dz.startD N_law_text ws) s := by
  rintro ws s R ⟨t, rfl, hd, hz, hR⟩
  refine ⟨rfl, ?_⟩
  cases t with
  | nil =>
    simp only [Dz.dSeq, Dz.dIf, Dz.dB, Dz.dOp, Dz.dUn, Dz.dVar, Dz.dC, Dz.dRet, Dz.dRetN, Dz.dNx, Dz.dBrk, Dz.dCnt, Dz.dAsg, Dz.dSet, Dz.dPar, Dz.dPar3, Dz.dgT, Dz.dgTt, Dz.dgCons, Dz.dgNil, Dz.dgN, Dz.dCall, Dz.dCons, Dz.dNil, Dz.dTup, Dz.dCB, Dz.dCN, Dz.dF, Dz.dM, Dz.dSz, Dz.dExpr, Dz.dNot, Dz.dAnd, Dz.dOr, Dz.dAndV, Dz.dOrV, Dz.dNotV, Dz.dIfE, Dz.dChain, Dz.dFrz, Dz.dIt, Dz.dRng1, Dz.dRng2, Dz.dSl, Dz.dNoPart, Dz.dPart, Dz.dCat, Dz.dRep, Dz.dLc, Dz.dFor, Dz.dAppend, Dz.dPop, Dz.dPopAt, Dz.rPopAtD, Dz.dSetIx, Dz.dYes, Dz.dRev, Dz.asI, Dz.asQ, Dz.asL, Dz.rIsN, Dz.rIs, Dz.rIsNot, Dz.isNon_d, Dz.isNon_non, Dz.isNon_tup, Dz.isNon_lst, Dz.isNon_str, Dz.isNon_int, Dz.isNon_bl, Dz.isNon_ref, Dz.isNon_dic, Dz.isNon_ty, Dz.rAddU, Dz.rSub, Dz.rMod, Dz.rDiv, Dz.rPow, Dz.rLt, Dz.rLe, Dz.rGt, Dz.rGe, Dz.rEq, Dz.rNe, Dz.rEqv, Dz.rInt2, Dz.rMax2, Dz.rMin2, Dz.rI, Dz.rCmp, Dz.rIxU, Dz.rAbs, Dz.rToInt, Dz.rListU, Dz.rSlU, Dz.trk, Dz.rLenU, Dz.rMulU, Dz.rNeg, Dz.startD, Dz.wipeD, Dz.Tr.d, Dz.Sg.put_M, Dz.Sg.put_n, Dz.Sg.put_pv, Dz.Sg.del_M, Dz.Sg.del_n, Dz.Sg.del_pv, Dz.Mm.put_same, Dz.Mm.put_put, Dz.Sg.put_put, Dz.Mm.put_ne, Dz.Mm.del_ne, Dz.rIsi, Dz.tyN, Dz.tyNames, Dz.isiT, Dz.subT, Dz.tyOk, Dz.tyNames, Dz.pyOf, Dz.toPy, Dz.toPys, Dz.Sg.put_mk, Dz.Sg.del_mk, Dz.spend_M, Dz.spend_pv, Dz.spend_n, Dz.spend_spend, Dz.spend_put, Dz.spend_del, Dz.spNext_iff, Dz.asI_lst, Dz.asI_tup, Dz.dFJ, Dz.dJs, Dz.dFmt, Dz.Tr.isNil, List.map_cons, List.map_nil, List.length_cons, List.length_nil, List.length_map, List.length_set, List.replicate, Nat.reduceSub, Nat.reduceAdd, List.cons_append, List.nil_append, List.getElem?_cons_zero, List.getElem?_cons_succ, List.set_cons_zero, List.set_cons_succ, if_true, if_false, Bool.false_eq_true, id, Nat.sub_zero, Bool.not_true, Bool.not_false, true_and, and_true, ne_eq, not_false_eq_true, not_true_eq_false, reduceCtorEq, Option.map_some, Option.bind_some, String.reduceBEq, Bool.or_false, Bool.or_true, Bool.false_or, Bool.true_or, Bool.and_true, Bool.and_false, Bool.true_and, Bool.false_and, decide_true, decide_false, List.all_cons, List.all_nil, List.any_cons, List.any_nil, beq_self_eq_true, t_law_text, s4]
    exact .of hR
  | node l a r =>
    simp only [Tr.depth, Tr.size] at hd hz
    have h1 := tx_len l
    have h2 := tx_len r
    have g1 : ¬ (l = .nil ∧ r = .nil) → Lw R (.str (mkS (a :: 40 :: (tx l ++ 44 :: (tx r ++ [41]))))) s := fun e => by
      rw [← tx_node e]; exact .of hR
    have i0 : L2.atI [l.d, chr a, r.d] 0 = some l.d := rfl
    have i1 : L2.atI [l.d, chr a, r.d] 1 = some (chr a) := rfl
    have i2 : L2.atI [l.d, chr a, r.d] 2 = some r.d := rfl
    simp only [Dz.dSeq, Dz.dIf, Dz.dB, Dz.dOp, Dz.dUn, Dz.dVar, Dz.dC, Dz.dRet, Dz.dRetN, Dz.dNx, Dz.dBrk, Dz.dCnt, Dz.dAsg, Dz.dSet, Dz.dPar, Dz.dPar3, Dz.dgT, Dz.dgTt, Dz.dgCons, Dz.dgNil, Dz.dgN, Dz.dCall, Dz.dCons, Dz.dNil, Dz.dTup, Dz.dCB, Dz.dCN, Dz.dF, Dz.dM, Dz.dSz, Dz.dExpr, Dz.dNot, Dz.dAnd, Dz.dOr, Dz.dAndV, Dz.dOrV, Dz.dNotV, Dz.dIfE, Dz.dChain, Dz.dFrz, Dz.dIt, Dz.dRng1, Dz.dRng2, Dz.dSl, Dz.dNoPart, Dz.dPart, Dz.dCat, Dz.dRep, Dz.dLc, Dz.dFor, Dz.dAppend, Dz.dPop, Dz.dPopAt, Dz.rPopAtD, Dz.dSetIx, Dz.dYes, Dz.dRev, Dz.asI, Dz.asQ, Dz.asL, Dz.rIsN, Dz.rIs, Dz.rIsNot, Dz.isNon_d, Dz.isNon_non, Dz.isNon_tup, Dz.isNon_lst, Dz.isNon_str, Dz.isNon_int, Dz.isNon_bl, Dz.isNon_ref, Dz.isNon_dic, Dz.isNon_ty, Dz.rAddU, Dz.rSub, Dz.rMod, Dz.rDiv, Dz.rPow, Dz.rLt, Dz.rLe, Dz.rGt, Dz.rGe, Dz.rEq, Dz.rNe, Dz.rEqv, Dz.rInt2, Dz.rMax2, Dz.rMin2, Dz.rI, Dz.rCmp, Dz.rIxU, Dz.rAbs, Dz.rToInt, Dz.rListU, Dz.rSlU, Dz.trk, Dz.rLenU, Dz.rMulU, Dz.rNeg, Dz.startD, Dz.wipeD, Dz.Tr.d, Dz.Sg.put_M, Dz.Sg.put_n, Dz.Sg.put_pv, Dz.Sg.del_M, Dz.Sg.del_n, Dz.Sg.del_pv, Dz.Mm.put_same, Dz.Mm.put_put, Dz.Sg.put_put, Dz.Mm.put_ne, Dz.Mm.del_ne, Dz.rIsi, Dz.tyN, Dz.tyNames, Dz.isiT, Dz.subT, Dz.tyOk, Dz.tyNames, Dz.pyOf, Dz.toPy, Dz.toPys, Dz.Sg.put_mk, Dz.Sg.del_mk, Dz.spend_M, Dz.spend_pv, Dz.spend_n, Dz.spend_spend, Dz.spend_put, Dz.spend_del, Dz.spNext_iff, Dz.asI_lst, Dz.asI_tup, Dz.dFJ, Dz.dJs, Dz.dFmt, Dz.Tr.isNil, List.map_cons, List.map_nil, List.length_cons, List.length_nil, List.length_map, List.length_set, List.replicate, Nat.reduceSub, Nat.reduceAdd, List.cons_append, List.nil_append, List.getElem?_cons_zero, List.getElem?_cons_succ, List.set_cons_zero, List.set_cons_succ, if_true, if_false, Bool.false_eq_true, id, Nat.sub_zero, Bool.not_true, Bool.not_false, true_and, and_true, ne_eq, not_false_eq_true, not_true_eq_false, reduceCtorEq, Option.map_some, Option.bind_some, String.reduceBEq, Bool.or_false, Bool.or_true, Bool.false_or, Bool.true_or, Bool.and_true, Bool.and_false, Bool.true_and, Bool.false_and, decide_true, decide_false, List.all_cons, List.all_nil, List.any_cons, List.any_nil, beq_self_eq_true, t_law_text, s1, s2, s3, spTx_iff, i0, i1, i2]
    by_cases e : l = .nil ∧ r = .nil
    · obtain ⟨rfl, rfl⟩ := e
      simp only [Dz.dSeq, Dz.dIf, Dz.dB, Dz.dOp, Dz.dUn, Dz.dVar, Dz.dC, Dz.dRet, Dz.dRetN, Dz.dNx, Dz.dBrk, Dz.dCnt, Dz.dAsg, Dz.dSet, Dz.dPar, Dz.dPar3, Dz.dgT, Dz.dgTt, Dz.dgCons, Dz.dgNil, Dz.dgN, Dz.dCall, Dz.dCons, Dz.dNil, Dz.dTup, Dz.dCB, Dz.dCN, Dz.dF, Dz.dM, Dz.dSz, Dz.dExpr, Dz.dNot, Dz.dAnd, Dz.dOr, Dz.dAndV, Dz.dOrV, Dz.dNotV, Dz.dIfE, Dz.dChain, Dz.dFrz, Dz.dIt, Dz.dRng1, Dz.dRng2, Dz.dSl, Dz.dNoPart, Dz.dPart, Dz.dCat, Dz.dRep, Dz.dLc, Dz.dFor, Dz.dAppend, Dz.dPop, Dz.dPopAt, Dz.rPopAtD, Dz.dSetIx, Dz.dYes, Dz.dRev, Dz.asI, Dz.asQ, Dz.asL, Dz.rIsN, Dz.rIs, Dz.rIsNot, Dz.isNon_d, Dz.isNon_non, Dz.isNon_tup, Dz.isNon_lst, Dz.isNon_str, Dz.isNon_int, Dz.isNon_bl, Dz.isNon_ref, Dz.isNon_dic, Dz.isNon_ty, Dz.rAddU, Dz.rSub, Dz.rMod, Dz.rDiv, Dz.rPow, Dz.rLt, Dz.rLe, Dz.rGt, Dz.rGe, Dz.rEq, Dz.rNe, Dz.rEqv, Dz.rInt2, Dz.rMax2, Dz.rMin2, Dz.rI, Dz.rCmp, Dz.rIxU, Dz.rAbs, Dz.rToInt, Dz.rListU, Dz.rSlU, Dz.trk, Dz.rLenU, Dz.rMulU, Dz.rNeg, Dz.startD, Dz.wipeD, Dz.Tr.d, Dz.Sg.put_M, Dz.Sg.put_n, Dz.Sg.put_pv, Dz.Sg.del_M, Dz.Sg.del_n, Dz.Sg.del_pv, Dz.Mm.put_same, Dz.Mm.put_put, Dz.Sg.put_put, Dz.Mm.put_ne, Dz.Mm.del_ne, Dz.rIsi, Dz.tyN, Dz.tyNames, Dz.isiT, Dz.subT, Dz.tyOk, Dz.tyNames, Dz.pyOf, Dz.toPy, Dz.toPys, Dz.Sg.put_mk, Dz.Sg.del_mk, Dz.spend_M, Dz.spend_pv, Dz.spend_n, Dz.spend_spend, Dz.spend_put, Dz.spend_del, Dz.spNext_iff, Dz.asI_lst, Dz.asI_tup, Dz.dFJ, Dz.dJs, Dz.dFmt, Dz.Tr.isNil, List.map_cons, List.map_nil, List.length_cons, List.length_nil, List.length_map, List.length_set, List.replicate, Nat.reduceSub, Nat.reduceAdd, List.cons_append, List.nil_append, List.getElem?_cons_zero, List.getElem?_cons_succ, List.set_cons_zero, List.set_cons_succ, if_true, if_false, Bool.false_eq_true, id, Nat.sub_zero, Bool.not_true, Bool.not_false, true_and, and_true, ne_eq, not_false_eq_true, not_true_eq_false, reduceCtorEq, Option.map_some, Option.bind_some, String.reduceBEq, Bool.or_false, Bool.or_true, Bool.false_or, Bool.true_or, Bool.and_true, Bool.and_false, Bool.true_and, Bool.false_and, decide_true, decide_false, List.all_cons, List.all_nil, List.any_cons, List.any_nil, beq_self_eq_true]
      exact .of hR
    · have g3 := g1 e
      have hh : ∀ {A B : Prop}, B → (if l.isNil = true then (if r.isNil = true then A else B) else B) := fun {A B} hB => by
        split
        · split
          · exact absurd ⟨Tr.isNil_iff.mp (by assumption), Tr.isNil_iff.mp (by assumption)⟩ e
          · exact hB
        · exact hB
      refine hh ?_
      simp only [dtx, chr_mk, empty_mk, mkS_app, mkS_len, List.nil_append, List.cons_append, List.append_assoc, List.length_cons, List.length_nil, List.length_append]
      exact ⟨by omega, by omega, by omega, by omega, by omega, by omega, by omega, by omega, by omega, g3⟩
def spOne : SpD := fun ws s R _ => ∃ (p : Addr) (ls : List D), ws = [.ref p, .lst ls] ∧ Dk s p ∧ 0 < ls.length ∧ ls.length ≤ 1000 ∧ 1 ≤ s.n ∧ ∀ x ∈ ls, R x (spend s 1)
theorem e_law_one : ∀ ws s R, spOne ws s R X0 → ws.length = 2 ∧ t_law_one spNext { nx := fun _ s' => Lw R .non s', rt := Lw R } (Dz.startD N_law_one ws) s := by
  rintro ws s R ⟨p, ls, rfl, hp, h0, h1, hn, hR⟩
  refine ⟨rfl, ?_⟩
  simp only [Dz.dSeq, Dz.dIf, Dz.dB, Dz.dOp, Dz.dUn, Dz.dVar, Dz.dC, Dz.dRet, Dz.dRetN, Dz.dNx, Dz.dBrk, Dz.dCnt, Dz.dAsg, Dz.dSet, Dz.dPar, Dz.dPar3, Dz.dgT, Dz.dgTt, Dz.dgCons, Dz.dgNil, Dz.dgN, Dz.dCall, Dz.dCons, Dz.dNil, Dz.dTup, Dz.dCB, Dz.dCN, Dz.dF, Dz.dM, Dz.dSz, Dz.dExpr, Dz.dNot, Dz.dAnd, Dz.dOr, Dz.dAndV, Dz.dOrV, Dz.dNotV, Dz.dIfE, Dz.dChain, Dz.dFrz, Dz.dIt, Dz.dRng1, Dz.dRng2, Dz.dSl, Dz.dNoPart, Dz.dPart, Dz.dCat, Dz.dRep, Dz.dLc, Dz.dFor, Dz.dAppend, Dz.dPop, Dz.dPopAt, Dz.rPopAtD, Dz.dSetIx, Dz.dYes, Dz.dRev, Dz.asI, Dz.asQ, Dz.asL, Dz.rIsN, Dz.rIs, Dz.rIsNot, Dz.isNon_d, Dz.isNon_non, Dz.isNon_tup, Dz.isNon_lst, Dz.isNon_str, Dz.isNon_int, Dz.isNon_bl, Dz.isNon_ref, Dz.isNon_dic, Dz.isNon_ty, Dz.rAddU, Dz.rSub, Dz.rMod, Dz.rDiv, Dz.rPow, Dz.rLt, Dz.rLe, Dz.rGt, Dz.rGe, Dz.rEq, Dz.rNe, Dz.rEqv, Dz.rInt2, Dz.rMax2, Dz.rMin2, Dz.rI, Dz.rCmp, Dz.rIxU, Dz.rAbs, Dz.rToInt, Dz.rListU, Dz.rSlU, Dz.trk, Dz.rLenU, Dz.rMulU, Dz.rNeg, Dz.startD, Dz.wipeD, Dz.Tr.d, Dz.Sg.put_M, Dz.Sg.put_n, Dz.Sg.put_pv, Dz.Sg.del_M, Dz.Sg.del_n, Dz.Sg.del_pv, Dz.Mm.put_same, Dz.Mm.put_put, Dz.Sg.put_put, Dz.Mm.put_ne, Dz.Mm.del_ne, Dz.rIsi, Dz.tyN, Dz.tyNames, Dz.isiT, Dz.subT, Dz.tyOk, Dz.tyNames, Dz.pyOf, Dz.toPy, Dz.toPys, Dz.Sg.put_mk, Dz.Sg.del_mk, Dz.spend_M, Dz.spend_pv, Dz.spend_n, Dz.spend_spend, Dz.spend_put, Dz.spend_del, Dz.spNext_iff, Dz.asI_lst, Dz.asI_tup, Dz.dFJ, Dz.dJs, Dz.dFmt, Dz.Tr.isNil, List.map_cons, List.map_nil, List.length_cons, List.length_nil, List.length_map, List.length_set, List.replicate, Nat.reduceSub, Nat.reduceAdd, List.cons_append, List.nil_append, List.getElem?_cons_zero, List.getElem?_cons_succ, List.set_cons_zero, List.set_cons_succ, if_true, if_false, Bool.false_eq_true, id, Nat.sub_zero, Bool.not_true, Bool.not_false, true_and, and_true, ne_eq, not_false_eq_true, not_true_eq_false, reduceCtorEq, Option.map_some, Option.bind_some, String.reduceBEq, Bool.or_false, Bool.or_true, Bool.false_or, Bool.true_or, Bool.and_true, Bool.and_false, Bool.true_and, Bool.false_and, decide_true, decide_false, List.all_cons, List.all_nil, List.any_cons, List.any_nil, beq_self_eq_true, t_law_one]
  refine ⟨hp, by omega, by omega, hn, fun i i0 i1 => ?_⟩
  obtain ⟨x, e1, e2, e3⟩ := atI_map (f := id) (xs := ls) (i := i) i0 i1
  rw [List.map_id] at e3
  rw [e3]
  exact .of (hR x e2)
end Pr
namespace Pr
open PySem PySem.Spec PyProof.Rows L2 Dz
def spLaw : SpD := fun ws s R _ => ∃ ns : List Int, ws = [.lst (ns.map D.int)] ∧ s = s0 ∧ ∀ s', R (.bl true) s'
def spTreeAny : SpD := fun ws s R _ => ∃ (p : Addr) (lim : Nat), ws = [.ref p, .int lim] ∧ 0 < lim ∧ lim ≤ 26 ∧ Dk s p ∧ 100 ≤ s.n ∧ ∀ t : Tr, 0 < t.size → t.size ≤ lim → t.all Lt → R t.d (spend s 100)
theorem e_law_tree_any : ∀ ws s R, spTreeAny ws s R X0 → ws.length = 2 ∧ t_law_tree spNext (spGrown 30) spLetters { nx := fun _ s' => Lw R .non s', rt := Lw R } (Dz.startD N_law_tree ws) s := by
  rintro ws s R ⟨p, lim, rfl, h0, h1, h⟩
  exact e_law_tree h0 h1 _ s R ⟨p, rfl, h⟩
theorem Ltc {t : Tr} (h : t.all Lt) : t.all (· < 1114112) := Tr.all_mono (fun c hc => by unfold Lt at hc; omega) h
theorem sabc : (Str.ofString "abc").cps.toList = [97, 98, 99] := by decide +kernel
theorem labc : (Str.ofString "abc").length = 3 := by decide +kernel
theorem strOk_mk {l : List Nat} (h : ∀ c ∈ l, c < 1114112) : PyData.strOk (mkS l) = true := by
  simp [PyData.strOk, mkS]
  exact h
theorem tx_lt : ∀ {t : Tr}, t.all Lt → ∀ c ∈ tx t, c < 1114112
  | .nil, _, c, h => by simp [tx] at h; omega
  | .node l a r, q, c, h => by
    have ha := q.2.1
    unfold Lt at ha
    by_cases e : l = .nil ∧ r = .nil
    · obtain ⟨rfl, rfl⟩ := e
      simp [tx] at h; omega
    · rw [tx_node e] at h
      simp only [List.mem_cons, List.mem_append, List.not_mem_nil, or_false] at h
      rcases h with h | h | h | h | h | h
      · omega
      · omega
      · exact tx_lt q.1 c h
      · omega
      · exact tx_lt q.2.2 c h
      · omega
theorem tx_ok {t : Tr} {n : Nat} (h : t.all Lt) : fit (dtx t) n := strOk_mk (tx_lt h)
theorem q_all : (Tr.node .nil 113 .nil).all Lt := ⟨trivial, by unfold Lt; decide, trivial⟩
theorem e_law : ∀ ws s R, spLaw ws s R X0 → ws.length = 1 ∧ t_law spDeck (spSame 70) (spTt 62) spTreeAny spOne (spT (fun t => t.mir.d) 62) (spTx 62) { nx := fun _ s' => Lw R .non s', rt := Lw R } (Dz.startD N_law ws) s := by
  rintro ws s R ⟨ns, rfl, rfl, hR⟩
  refine ⟨rfl, ?_⟩
  simp only [Dz.dSeq, Dz.dIf, Dz.dB, Dz.dOp, Dz.dUn, Dz.dVar, Dz.dC, Dz.dRet, Dz.dRetN, Dz.dNx, Dz.dBrk, Dz.dCnt, Dz.dAsg, Dz.dSet, Dz.dPar, Dz.dPar3, Dz.dgT, Dz.dgTt, Dz.dgCons, Dz.dgNil, Dz.dgN, Dz.dCall, Dz.dCons, Dz.dNil, Dz.dTup, Dz.dCB, Dz.dCN, Dz.dF, Dz.dM, Dz.dSz, Dz.dExpr, Dz.dNot, Dz.dAnd, Dz.dOr, Dz.dAndV, Dz.dOrV, Dz.dNotV, Dz.dIfE, Dz.dChain, Dz.dFrz, Dz.dIt, Dz.dRng1, Dz.dRng2, Dz.dSl, Dz.dNoPart, Dz.dPart, Dz.dCat, Dz.dRep, Dz.dLc, Dz.dFor, Dz.dAppend, Dz.dPop, Dz.dPopAt, Dz.rPopAtD, Dz.dSetIx, Dz.dYes, Dz.dRev, Dz.asI, Dz.asQ, Dz.asL, Dz.rIsN, Dz.rIs, Dz.rIsNot, Dz.isNon_d, Dz.isNon_non, Dz.isNon_tup, Dz.isNon_lst, Dz.isNon_str, Dz.isNon_int, Dz.isNon_bl, Dz.isNon_ref, Dz.isNon_dic, Dz.isNon_ty, Dz.rAddU, Dz.rSub, Dz.rMod, Dz.rDiv, Dz.rPow, Dz.rLt, Dz.rLe, Dz.rGt, Dz.rGe, Dz.rEq, Dz.rNe, Dz.rInt2, Dz.rMax2, Dz.rMin2, Dz.rI, Dz.rCmp, Dz.rIxU, Dz.rAbs, Dz.rToInt, Dz.rListU, Dz.rSlU, Dz.trk, Dz.rLenU, Dz.rMulU, Dz.rNeg, Dz.startD, Dz.wipeD, Dz.Tr.d, Dz.Sg.put_M, Dz.Sg.put_n, Dz.Sg.put_pv, Dz.Sg.del_M, Dz.Sg.del_n, Dz.Sg.del_pv, Dz.Mm.put_same, Dz.Mm.put_put, Dz.Sg.put_put, Dz.Mm.put_ne, Dz.Mm.del_ne, Dz.rIsi, Dz.tyN, Dz.tyNames, Dz.isiT, Dz.subT, Dz.tyOk, Dz.tyNames, Dz.Sg.put_mk, Dz.Sg.del_mk, Dz.spend_M, Dz.spend_pv, Dz.spend_n, Dz.spend_spend, Dz.spend_put, Dz.spend_del, Dz.spNext_iff, Dz.asI_lst, Dz.asI_tup, Dz.dFJ, Dz.dJs, Dz.dFmt, Dz.Tr.isNil, List.map_cons, List.map_nil, List.length_cons, List.length_nil, List.length_map, List.length_set, List.replicate, Nat.reduceSub, Nat.reduceAdd, List.cons_append, List.nil_append, List.getElem?_cons_zero, List.getElem?_cons_succ, List.set_cons_zero, List.set_cons_succ, if_true, if_false, Bool.false_eq_true, id, Nat.sub_zero, Bool.not_true, Bool.not_false, true_and, and_true, ne_eq, not_false_eq_true, not_true_eq_false, reduceCtorEq, Option.map_some, Option.bind_some, String.reduceBEq, Bool.or_false, Bool.or_true, Bool.false_or, Bool.true_or, Bool.and_true, Bool.and_false, Bool.true_and, Bool.false_and, decide_true, decide_false, List.all_cons, List.all_nil, List.any_cons, List.any_nil, beq_self_eq_true, Dz.rEqv_int, Dz.rEqv_str, Dz.rEqv_bl, t_law]
  refine ⟨rfl, ns, rfl, fun p s1 hp hn => ?_⟩
  simp only [Dz.dSeq, Dz.dIf, Dz.dB, Dz.dOp, Dz.dUn, Dz.dVar, Dz.dC, Dz.dRet, Dz.dRetN, Dz.dNx, Dz.dBrk, Dz.dCnt, Dz.dAsg, Dz.dSet, Dz.dPar, Dz.dPar3, Dz.dgT, Dz.dgTt, Dz.dgCons, Dz.dgNil, Dz.dgN, Dz.dCall, Dz.dCons, Dz.dNil, Dz.dTup, Dz.dCB, Dz.dCN, Dz.dF, Dz.dM, Dz.dSz, Dz.dExpr, Dz.dNot, Dz.dAnd, Dz.dOr, Dz.dAndV, Dz.dOrV, Dz.dNotV, Dz.dIfE, Dz.dChain, Dz.dFrz, Dz.dIt, Dz.dRng1, Dz.dRng2, Dz.dSl, Dz.dNoPart, Dz.dPart, Dz.dCat, Dz.dRep, Dz.dLc, Dz.dFor, Dz.dAppend, Dz.dPop, Dz.dPopAt, Dz.rPopAtD, Dz.dSetIx, Dz.dYes, Dz.dRev, Dz.asI, Dz.asQ, Dz.asL, Dz.rIsN, Dz.rIs, Dz.rIsNot, Dz.isNon_d, Dz.isNon_non, Dz.isNon_tup, Dz.isNon_lst, Dz.isNon_str, Dz.isNon_int, Dz.isNon_bl, Dz.isNon_ref, Dz.isNon_dic, Dz.isNon_ty, Dz.rAddU, Dz.rSub, Dz.rMod, Dz.rDiv, Dz.rPow, Dz.rLt, Dz.rLe, Dz.rGt, Dz.rGe, Dz.rEq, Dz.rNe, Dz.rInt2, Dz.rMax2, Dz.rMin2, Dz.rI, Dz.rCmp, Dz.rIxU, Dz.rAbs, Dz.rToInt, Dz.rListU, Dz.rSlU, Dz.trk, Dz.rLenU, Dz.rMulU, Dz.rNeg, Dz.startD, Dz.wipeD, Dz.Tr.d, Dz.Sg.put_M, Dz.Sg.put_n, Dz.Sg.put_pv, Dz.Sg.del_M, Dz.Sg.del_n, Dz.Sg.del_pv, Dz.Mm.put_same, Dz.Mm.put_put, Dz.Sg.put_put, Dz.Mm.put_ne, Dz.Mm.del_ne, Dz.rIsi, Dz.tyN, Dz.tyNames, Dz.isiT, Dz.subT, Dz.tyOk, Dz.tyNames, Dz.Sg.put_mk, Dz.Sg.del_mk, Dz.spend_M, Dz.spend_pv, Dz.spend_n, Dz.spend_spend, Dz.spend_put, Dz.spend_del, Dz.spNext_iff, Dz.asI_lst, Dz.asI_tup, Dz.dFJ, Dz.dJs, Dz.dFmt, Dz.Tr.isNil, List.map_cons, List.map_nil, List.length_cons, List.length_nil, List.length_map, List.length_set, List.replicate, Nat.reduceSub, Nat.reduceAdd, List.cons_append, List.nil_append, List.getElem?_cons_zero, List.getElem?_cons_succ, List.set_cons_zero, List.set_cons_succ, if_true, if_false, Bool.false_eq_true, id, Nat.sub_zero, Bool.not_true, Bool.not_false, true_and, and_true, ne_eq, not_false_eq_true, not_true_eq_false, reduceCtorEq, Option.map_some, Option.bind_some, String.reduceBEq, Bool.or_false, Bool.or_true, Bool.false_or, Bool.true_or, Bool.and_true, Bool.and_false, Bool.true_and, Bool.false_and, decide_true, decide_false, List.all_cons, List.all_nil, List.any_cons, List.any_nil, beq_self_eq_true, Dz.rEqv_int, Dz.rEqv_str, Dz.rEqv_bl]
  refine ⟨by decide, .node .nil 113 .nil, by rw [s5]; rfl, trivial, by decide, by decide, .str (mkS [113]), 1, by rw [s5]; rfl, strOk_chr (c := 113) (by decide), by decide, by decide, ?_⟩
  simp only [Dz.dSeq, Dz.dIf, Dz.dB, Dz.dOp, Dz.dUn, Dz.dVar, Dz.dC, Dz.dRet, Dz.dRetN, Dz.dNx, Dz.dBrk, Dz.dCnt, Dz.dAsg, Dz.dSet, Dz.dPar, Dz.dPar3, Dz.dgT, Dz.dgTt, Dz.dgCons, Dz.dgNil, Dz.dgN, Dz.dCall, Dz.dCons, Dz.dNil, Dz.dTup, Dz.dCB, Dz.dCN, Dz.dF, Dz.dM, Dz.dSz, Dz.dExpr, Dz.dNot, Dz.dAnd, Dz.dOr, Dz.dAndV, Dz.dOrV, Dz.dNotV, Dz.dIfE, Dz.dChain, Dz.dFrz, Dz.dIt, Dz.dRng1, Dz.dRng2, Dz.dSl, Dz.dNoPart, Dz.dPart, Dz.dCat, Dz.dRep, Dz.dLc, Dz.dFor, Dz.dAppend, Dz.dPop, Dz.dPopAt, Dz.rPopAtD, Dz.dSetIx, Dz.dYes, Dz.dRev, Dz.asI, Dz.asQ, Dz.asL, Dz.rIsN, Dz.rIs, Dz.rIsNot, Dz.isNon_d, Dz.isNon_non, Dz.isNon_tup, Dz.isNon_lst, Dz.isNon_str, Dz.isNon_int, Dz.isNon_bl, Dz.isNon_ref, Dz.isNon_dic, Dz.isNon_ty, Dz.rAddU, Dz.rSub, Dz.rMod, Dz.rDiv, Dz.rPow, Dz.rLt, Dz.rLe, Dz.rGt, Dz.rGe, Dz.rEq, Dz.rNe, Dz.rInt2, Dz.rMax2, Dz.rMin2, Dz.rI, Dz.rCmp, Dz.rIxU, Dz.rAbs, Dz.rToInt, Dz.rListU, Dz.rSlU, Dz.trk, Dz.rLenU, Dz.rMulU, Dz.rNeg, Dz.startD, Dz.wipeD, Dz.Tr.d, Dz.Sg.put_M, Dz.Sg.put_n, Dz.Sg.put_pv, Dz.Sg.del_M, Dz.Sg.del_n, Dz.Sg.del_pv, Dz.Mm.put_same, Dz.Mm.put_put, Dz.Sg.put_put, Dz.Mm.put_ne, Dz.Mm.del_ne, Dz.rIsi, Dz.tyN, Dz.tyNames, Dz.isiT, Dz.subT, Dz.tyOk, Dz.tyNames, Dz.Sg.put_mk, Dz.Sg.del_mk, Dz.spend_M, Dz.spend_pv, Dz.spend_n, Dz.spend_spend, Dz.spend_put, Dz.spend_del, Dz.spNext_iff, Dz.asI_lst, Dz.asI_tup, Dz.dFJ, Dz.dJs, Dz.dFmt, Dz.Tr.isNil, List.map_cons, List.map_nil, List.length_cons, List.length_nil, List.length_map, List.length_set, List.replicate, Nat.reduceSub, Nat.reduceAdd, List.cons_append, List.nil_append, List.getElem?_cons_zero, List.getElem?_cons_succ, List.set_cons_zero, List.set_cons_succ, if_true, if_false, Bool.false_eq_true, id, Nat.sub_zero, Bool.not_true, Bool.not_false, true_and, and_true, ne_eq, not_false_eq_true, not_true_eq_false, reduceCtorEq, Option.map_some, Option.bind_some, String.reduceBEq, Bool.or_false, Bool.or_true, Bool.false_or, Bool.true_or, Bool.and_true, Bool.and_false, Bool.true_and, Bool.false_and, decide_true, decide_false, List.all_cons, List.all_nil, List.any_cons, List.any_nil, beq_self_eq_true, Dz.rEqv_int, Dz.rEqv_str, Dz.rEqv_bl]
  refine ⟨by decide, by decide, ?_⟩
  refine for_inv (fun l env s' => ∃ (e2 e3 e4 e5 e6 e7 e8 e9 : Option D), env = [some (.lst (ns.map D.int)), some (.ref p), e2, e3, e4, e5, e6, e7, e8, e9] ∧ Dk s' p ∧ l.length * 1000 ≤ s'.n) ?_ ?_ ⟨none, none, none, none, none, none, none, none, rfl, hp, by rw [rg_len, hn]; decide⟩
  · rintro env s' ⟨e2, e3, e4, e5, e6, e7, e8, e9, rfl, hp', hn'⟩
    exact ⟨rfl, .of (hR s')⟩
  · rintro x r env s' N ⟨e2, e3, e4, e5, e6, e7, e8, e9, rfl, hp', hn'⟩ hN
    rw [List.length_cons] at hn'
    simp only [Dz.dSeq, Dz.dIf, Dz.dB, Dz.dOp, Dz.dUn, Dz.dVar, Dz.dC, Dz.dRet, Dz.dRetN, Dz.dNx, Dz.dBrk, Dz.dCnt, Dz.dAsg, Dz.dSet, Dz.dPar, Dz.dPar3, Dz.dgT, Dz.dgTt, Dz.dgCons, Dz.dgNil, Dz.dgN, Dz.dCall, Dz.dCons, Dz.dNil, Dz.dTup, Dz.dCB, Dz.dCN, Dz.dF, Dz.dM, Dz.dSz, Dz.dExpr, Dz.dNot, Dz.dAnd, Dz.dOr, Dz.dAndV, Dz.dOrV, Dz.dNotV, Dz.dIfE, Dz.dChain, Dz.dFrz, Dz.dIt, Dz.dRng1, Dz.dRng2, Dz.dSl, Dz.dNoPart, Dz.dPart, Dz.dCat, Dz.dRep, Dz.dLc, Dz.dFor, Dz.dAppend, Dz.dPop, Dz.dPopAt, Dz.rPopAtD, Dz.dSetIx, Dz.dYes, Dz.dRev, Dz.asI, Dz.asQ, Dz.asL, Dz.rIsN, Dz.rIs, Dz.rIsNot, Dz.isNon_d, Dz.isNon_non, Dz.isNon_tup, Dz.isNon_lst, Dz.isNon_str, Dz.isNon_int, Dz.isNon_bl, Dz.isNon_ref, Dz.isNon_dic, Dz.isNon_ty, Dz.rAddU, Dz.rSub, Dz.rMod, Dz.rDiv, Dz.rPow, Dz.rLt, Dz.rLe, Dz.rGt, Dz.rGe, Dz.rEq, Dz.rNe, Dz.rInt2, Dz.rMax2, Dz.rMin2, Dz.rI, Dz.rCmp, Dz.rIxU, Dz.rAbs, Dz.rToInt, Dz.rListU, Dz.rSlU, Dz.trk, Dz.rLenU, Dz.rMulU, Dz.rNeg, Dz.startD, Dz.wipeD, Dz.Tr.d, Dz.Sg.put_M, Dz.Sg.put_n, Dz.Sg.put_pv, Dz.Sg.del_M, Dz.Sg.del_n, Dz.Sg.del_pv, Dz.Mm.put_same, Dz.Mm.put_put, Dz.Sg.put_put, Dz.Mm.put_ne, Dz.Mm.del_ne, Dz.rIsi, Dz.tyN, Dz.tyNames, Dz.isiT, Dz.subT, Dz.tyOk, Dz.tyNames, Dz.Sg.put_mk, Dz.Sg.del_mk, Dz.spend_M, Dz.spend_pv, Dz.spend_n, Dz.spend_spend, Dz.spend_put, Dz.spend_del, Dz.spNext_iff, Dz.asI_lst, Dz.asI_tup, Dz.dFJ, Dz.dJs, Dz.dFmt, Dz.Tr.isNil, List.map_cons, List.map_nil, List.length_cons, List.length_nil, List.length_map, List.length_set, List.replicate, Nat.reduceSub, Nat.reduceAdd, List.cons_append, List.nil_append, List.getElem?_cons_zero, List.getElem?_cons_succ, List.set_cons_zero, List.set_cons_succ, if_true, if_false, Bool.false_eq_true, id, Nat.sub_zero, Bool.not_true, Bool.not_false, true_and, and_true, ne_eq, not_false_eq_true, not_true_eq_false, reduceCtorEq, Option.map_some, Option.bind_some, String.reduceBEq, Bool.or_false, Bool.or_true, Bool.false_or, Bool.true_or, Bool.and_true, Bool.and_false, Bool.true_and, Bool.false_and, decide_true, decide_false, List.all_cons, List.all_nil, List.any_cons, List.any_nil, beq_self_eq_true, Dz.rEqv_int, Dz.rEqv_str, Dz.rEqv_bl]
    refine ⟨p, 12, rfl, by decide, by decide, hp', by omega, fun t h0 h1 ha => ?_⟩
    have hd := t.depth_le
    cases t with
    | nil => cases h0
    | node l a r =>
    have i0 : L2.atI [l.d, chr a, r.d] 0 = some l.d := rfl
    have i1 : L2.atI [l.d, chr a, r.d] 1 = some (chr a) := rfl
    have i2 : L2.atI [l.d, chr a, r.d] 2 = some r.d := rfl
    simp only [Dz.dSeq, Dz.dIf, Dz.dB, Dz.dOp, Dz.dUn, Dz.dVar, Dz.dC, Dz.dRet, Dz.dRetN, Dz.dNx, Dz.dBrk, Dz.dCnt, Dz.dAsg, Dz.dSet, Dz.dPar, Dz.dPar3, Dz.dgT, Dz.dgTt, Dz.dgCons, Dz.dgNil, Dz.dgN, Dz.dCall, Dz.dCons, Dz.dNil, Dz.dTup, Dz.dCB, Dz.dCN, Dz.dF, Dz.dM, Dz.dSz, Dz.dExpr, Dz.dNot, Dz.dAnd, Dz.dOr, Dz.dAndV, Dz.dOrV, Dz.dNotV, Dz.dIfE, Dz.dChain, Dz.dFrz, Dz.dIt, Dz.dRng1, Dz.dRng2, Dz.dSl, Dz.dNoPart, Dz.dPart, Dz.dCat, Dz.dRep, Dz.dLc, Dz.dFor, Dz.dAppend, Dz.dPop, Dz.dPopAt, Dz.rPopAtD, Dz.dSetIx, Dz.dYes, Dz.dRev, Dz.asI, Dz.asQ, Dz.asL, Dz.rIsN, Dz.rIs, Dz.rIsNot, Dz.isNon_d, Dz.isNon_non, Dz.isNon_tup, Dz.isNon_lst, Dz.isNon_str, Dz.isNon_int, Dz.isNon_bl, Dz.isNon_ref, Dz.isNon_dic, Dz.isNon_ty, Dz.rAddU, Dz.rSub, Dz.rMod, Dz.rDiv, Dz.rPow, Dz.rLt, Dz.rLe, Dz.rGt, Dz.rGe, Dz.rEq, Dz.rNe, Dz.rInt2, Dz.rMax2, Dz.rMin2, Dz.rI, Dz.rCmp, Dz.rIxU, Dz.rAbs, Dz.rToInt, Dz.rListU, Dz.rSlU, Dz.trk, Dz.rLenU, Dz.rMulU, Dz.rNeg, Dz.startD, Dz.wipeD, Dz.Tr.d, Dz.Sg.put_M, Dz.Sg.put_n, Dz.Sg.put_pv, Dz.Sg.del_M, Dz.Sg.del_n, Dz.Sg.del_pv, Dz.Mm.put_same, Dz.Mm.put_put, Dz.Sg.put_put, Dz.Mm.put_ne, Dz.Mm.del_ne, Dz.rIsi, Dz.tyN, Dz.tyNames, Dz.isiT, Dz.subT, Dz.tyOk, Dz.tyNames, Dz.Sg.put_mk, Dz.Sg.del_mk, Dz.spend_M, Dz.spend_pv, Dz.spend_n, Dz.spend_spend, Dz.spend_put, Dz.spend_del, Dz.spNext_iff, Dz.asI_lst, Dz.asI_tup, Dz.dFJ, Dz.dJs, Dz.dFmt, Dz.Tr.isNil, List.map_cons, List.map_nil, List.length_cons, List.length_nil, List.length_map, List.length_set, List.replicate, Nat.reduceSub, Nat.reduceAdd, List.cons_append, List.nil_append, List.getElem?_cons_zero, List.getElem?_cons_succ, List.set_cons_zero, List.set_cons_succ, if_true, if_false, Bool.false_eq_true, id, Nat.sub_zero, Bool.not_true, Bool.not_false, true_and, and_true, ne_eq, not_false_eq_true, not_true_eq_false, reduceCtorEq, Option.map_some, Option.bind_some, String.reduceBEq, Bool.or_false, Bool.or_true, Bool.false_or, Bool.true_or, Bool.and_true, Bool.and_false, Bool.true_and, Bool.false_and, decide_true, decide_false, List.all_cons, List.all_nil, List.any_cons, List.any_nil, beq_self_eq_true, Dz.rEqv_int, Dz.rEqv_str, Dz.rEqv_bl, i0, i1, i2, sabc, labc]
    refine ⟨by decide, p, [chr 97, chr 98, chr 99], rfl, hp', by decide, by decide, by rw [spend_n]; omega, fun c hc => ?_⟩
    obtain ⟨b, hb, rfl⟩ : ∃ b, Lt b ∧ c = chr b := by
      simp only [List.mem_cons, List.not_mem_nil, or_false] at hc
      rcases hc with rfl | rfl | rfl
      · exact ⟨97, by unfold Lt; decide, rfl⟩
      · exact ⟨98, by unfold Lt; decide, rfl⟩
      · exact ⟨99, by unfold Lt; decide, rfl⟩
    have tn : ∀ {x y : Tr} {c : Nat}, D.tup [x.d, chr c, y.d] = (Tr.node x c y).d := rfl
    have nonT : D.non = Tr.nil.d := rfl
    rw [tn, tn]
    refine ⟨by decide, spT_iff.mpr ⟨by omega, p, 3, rfl, by decide, by decide, hp', by simp only [spend_n]; omega, fun t3 h30 h31 h3a => ?_⟩⟩
    refine ⟨p, 12, rfl, by decide, by decide, hp', by simp only [spend_n]; omega, fun t4 h40 h41 h4a => ⟨by decide, ?_⟩⟩
    have hd3 := t3.depth_le
    have hd4 := t4.depth_le
    rw [nonT, tn, tn]
    simp only [Dz.dSeq, Dz.dIf, Dz.dB, Dz.dOp, Dz.dUn, Dz.dVar, Dz.dC, Dz.dRet, Dz.dRetN, Dz.dNx, Dz.dBrk, Dz.dCnt, Dz.dAsg, Dz.dSet, Dz.dPar, Dz.dPar3, Dz.dgT, Dz.dgTt, Dz.dgCons, Dz.dgNil, Dz.dgN, Dz.dCall, Dz.dCons, Dz.dNil, Dz.dTup, Dz.dCB, Dz.dCN, Dz.dF, Dz.dM, Dz.dSz, Dz.dExpr, Dz.dNot, Dz.dAnd, Dz.dOr, Dz.dAndV, Dz.dOrV, Dz.dNotV, Dz.dIfE, Dz.dChain, Dz.dFrz, Dz.dIt, Dz.dRng1, Dz.dRng2, Dz.dSl, Dz.dNoPart, Dz.dPart, Dz.dCat, Dz.dRep, Dz.dLc, Dz.dFor, Dz.dAppend, Dz.dPop, Dz.dPopAt, Dz.rPopAtD, Dz.dSetIx, Dz.dYes, Dz.dRev, Dz.asI, Dz.asQ, Dz.asL, Dz.rIsN, Dz.rIs, Dz.rIsNot, Dz.isNon_d, Dz.isNon_non, Dz.isNon_tup, Dz.isNon_lst, Dz.isNon_str, Dz.isNon_int, Dz.isNon_bl, Dz.isNon_ref, Dz.isNon_dic, Dz.isNon_ty, Dz.rAddU, Dz.rSub, Dz.rMod, Dz.rDiv, Dz.rPow, Dz.rLt, Dz.rLe, Dz.rGt, Dz.rGe, Dz.rEq, Dz.rNe, Dz.rInt2, Dz.rMax2, Dz.rMin2, Dz.rI, Dz.rCmp, Dz.rIxU, Dz.rAbs, Dz.rToInt, Dz.rListU, Dz.rSlU, Dz.trk, Dz.rLenU, Dz.rMulU, Dz.rNeg, Dz.startD, Dz.wipeD, Dz.Tr.d, Dz.Sg.put_M, Dz.Sg.put_n, Dz.Sg.put_pv, Dz.Sg.del_M, Dz.Sg.del_n, Dz.Sg.del_pv, Dz.Mm.put_same, Dz.Mm.put_put, Dz.Sg.put_put, Dz.Mm.put_ne, Dz.Mm.del_ne, Dz.rIsi, Dz.tyN, Dz.tyNames, Dz.isiT, Dz.subT, Dz.tyOk, Dz.tyNames, Dz.Sg.put_mk, Dz.Sg.del_mk, Dz.spend_M, Dz.spend_pv, Dz.spend_n, Dz.spend_spend, Dz.spend_put, Dz.spend_del, Dz.spNext_iff, Dz.asI_lst, Dz.asI_tup, Dz.dFJ, Dz.dJs, Dz.dFmt, Dz.Tr.isNil, List.map_cons, List.map_nil, List.length_cons, List.length_nil, List.length_map, List.length_set, List.replicate, Nat.reduceSub, Nat.reduceAdd, List.cons_append, List.nil_append, List.getElem?_cons_zero, List.getElem?_cons_succ, List.set_cons_zero, List.set_cons_succ, if_true, if_false, Bool.false_eq_true, id, Nat.sub_zero, Bool.not_true, Bool.not_false, true_and, and_true, ne_eq, not_false_eq_true, not_true_eq_false, reduceCtorEq, Option.map_some, Option.bind_some, String.reduceBEq, Bool.or_false, Bool.or_true, Bool.false_or, Bool.true_or, Bool.and_true, Bool.and_false, Bool.true_and, Bool.false_and, decide_true, decide_false, List.all_cons, List.all_nil, List.any_cons, List.any_nil, beq_self_eq_true, Dz.rEqv_int, Dz.rEqv_str, Dz.rEqv_bl]
    have sz := h1
    simp only [Tr.size, Tr.depth] at hd sz
    have key : ∀ u ∈ [Tr.node l a r, .node l b r, (Tr.node l a r).mir, t3, t4, .node .nil a r, .node l a .nil], nn u ∧ u.size ≤ 12 ∧ u.depth ≤ 58 ∧ u.all Lt := by
      have m1 := Tr.size_mir (.node l a r)
      have m2 := Tr.depth_mir (.node l a r)
      simp only [Tr.size, Tr.depth] at m1 m2
      have nz : ∀ {u : Tr}, 0 < u.size → nn u := fun {u} h => by cases u with | nil => cases h | node _ _ _ => trivial
      intro u hu
      simp only [List.mem_cons, List.not_mem_nil, or_false] at hu
      rcases hu with rfl | rfl | rfl | rfl | rfl | rfl | rfl
      · exact ⟨trivial, h1, by simp only [Tr.depth]; omega, ha⟩
      · exact ⟨trivial, by simp only [Tr.size]; omega, by simp only [Tr.depth]; omega, ha.1, hb, ha.2.2⟩
      · exact ⟨trivial, by omega, by omega, Tr.all_mir ha⟩
      · exact ⟨nz h30, by omega, by omega, h3a⟩
      · exact ⟨nz h40, by omega, by omega, h4a⟩
      · exact ⟨trivial, by simp only [Tr.size]; omega, by simp only [Tr.depth]; omega, trivial, ha.2.1, ha.2.2⟩
      · exact ⟨trivial, by simp only [Tr.size]; omega, by simp only [Tr.depth]; omega, ha.1, ha.2.1, trivial⟩
    have hT := key (.node l a r) (by simp)
    refine ⟨by decide, by decide, by decide, by decide, ?_⟩
    refine for_inv (fun lst env s'' => ∃ (us : List Tr) (e4 e5 e6 e7 e8 e9 : Option D), lst = us.map Tr.d ∧ (∀ u ∈ us, nn u ∧ u.size ≤ 12 ∧ u.depth ≤ 58 ∧ u.all Lt) ∧ env = [some (.lst (ns.map D.int)), some (.ref p), some x, some (Tr.node l a r).d, e4, e5, e6, e7, e8, e9] ∧ s'' = spend s' 301) ?_ ?_ ⟨[Tr.node l a r, .node l b r, (Tr.node l a r).mir, t3, t4, .node .nil a r, .node l a .nil], _, _, _, _, _, _, rfl, key, rfl, rfl⟩
    · rintro env s'' ⟨us, e4, e5, e6, e7, e8, e9, _, _, rfl, rfl⟩
      exact ⟨rfl, hN _ _ ⟨_, _, _, _, _, _, _, _, rfl, hp', by rw [spend_n]; omega⟩⟩
    · rintro y q env s'' M ⟨us, e4, e5, e6, e7, e8, e9, hus, hg, rfl, rfl⟩ hM
      cases us with
      | nil => cases hus
      | cons u us =>
      simp only [List.map_cons, List.cons.injEq] at hus
      obtain ⟨rfl, rfl⟩ := hus
      have hu := hg u List.mem_cons_self
      have hv := fun v hv => hg v (List.mem_cons_of_mem _ hv)
      clear key
      revert hT hM
      generalize Tr.node l a r = T
      intro hT hM
      have eT : ∀ (g : Bool → Bool) (s2 : Sg) (Q : KD), rEqv g T.d u.d s2 Q ↔ Q (.bl (g (decide (T = u)))) s2 := fun g s2 Q => rEqv_tr (Ltc hT.2.2.2) (Ltc hu.2.2.2) (by omega) (by omega)
      have rp : ∀ (s2 : Sg) (Q : KD), Q (.str (PyData.list [pyT T, pyT u]).shown) s2 → rRepr [.lst [T.d, u.d]] s2 Q := fun s2 Q h => repr_trs (ts := [T, u]) (fun t ht => by
        simp only [List.mem_cons, List.not_mem_nil, or_false] at ht
        rcases ht with rfl | rfl
        · exact ⟨by omega, by omega, Ltc hT.2.2.2⟩
        · exact ⟨by omega, by omega, Ltc hu.2.2.2⟩) (by simp) h
      have j0 : L2.atI [.str (mkS (tx T)), .str (mkS (tx u))] 0 = some (D.str (mkS (tx T))) := rfl
      have j1 : L2.atI [.str (mkS (tx T)), .str (mkS (tx u))] 1 = some (D.str (mkS (tx u))) := rfl
      simp only [Dz.dSeq, Dz.dIf, Dz.dB, Dz.dOp, Dz.dUn, Dz.dVar, Dz.dC, Dz.dRet, Dz.dRetN, Dz.dNx, Dz.dBrk, Dz.dCnt, Dz.dAsg, Dz.dSet, Dz.dPar, Dz.dPar3, Dz.dgT, Dz.dgTt, Dz.dgCons, Dz.dgNil, Dz.dgN, Dz.dCall, Dz.dCons, Dz.dNil, Dz.dTup, Dz.dCB, Dz.dCN, Dz.dF, Dz.dM, Dz.dSz, Dz.dExpr, Dz.dNot, Dz.dAnd, Dz.dOr, Dz.dAndV, Dz.dOrV, Dz.dNotV, Dz.dIfE, Dz.dChain, Dz.dFrz, Dz.dIt, Dz.dRng1, Dz.dRng2, Dz.dSl, Dz.dNoPart, Dz.dPart, Dz.dCat, Dz.dRep, Dz.dLc, Dz.dFor, Dz.dAppend, Dz.dPop, Dz.dPopAt, Dz.rPopAtD, Dz.dSetIx, Dz.dYes, Dz.dRev, Dz.asI, Dz.asQ, Dz.asL, Dz.rIsN, Dz.rIs, Dz.rIsNot, Dz.isNon_d, Dz.isNon_non, Dz.isNon_tup, Dz.isNon_lst, Dz.isNon_str, Dz.isNon_int, Dz.isNon_bl, Dz.isNon_ref, Dz.isNon_dic, Dz.isNon_ty, Dz.rAddU, Dz.rSub, Dz.rMod, Dz.rDiv, Dz.rPow, Dz.rLt, Dz.rLe, Dz.rGt, Dz.rGe, Dz.rEq, Dz.rNe, Dz.rInt2, Dz.rMax2, Dz.rMin2, Dz.rI, Dz.rCmp, Dz.rIxU, Dz.rAbs, Dz.rToInt, Dz.rListU, Dz.rSlU, Dz.trk, Dz.rLenU, Dz.rMulU, Dz.rNeg, Dz.startD, Dz.wipeD, Dz.Sg.put_M, Dz.Sg.put_n, Dz.Sg.put_pv, Dz.Sg.del_M, Dz.Sg.del_n, Dz.Sg.del_pv, Dz.Mm.put_same, Dz.Mm.put_put, Dz.Sg.put_put, Dz.Mm.put_ne, Dz.Mm.del_ne, Dz.rIsi, Dz.tyN, Dz.tyNames, Dz.isiT, Dz.subT, Dz.tyOk, Dz.tyNames, Dz.Sg.put_mk, Dz.Sg.del_mk, Dz.spend_M, Dz.spend_pv, Dz.spend_n, Dz.spend_spend, Dz.spend_put, Dz.spend_del, Dz.spNext_iff, Dz.asI_lst, Dz.asI_tup, Dz.dFJ, Dz.dJs, Dz.dFmt, Dz.Tr.isNil, List.map_cons, List.map_nil, List.length_cons, List.length_nil, List.length_map, List.length_set, List.replicate, Nat.reduceSub, Nat.reduceAdd, List.cons_append, List.nil_append, List.getElem?_cons_zero, List.getElem?_cons_succ, List.set_cons_zero, List.set_cons_succ, if_true, if_false, Bool.false_eq_true, id, Nat.sub_zero, Bool.not_true, Bool.not_false, true_and, and_true, ne_eq, not_false_eq_true, not_true_eq_false, reduceCtorEq, Option.map_some, Option.bind_some, String.reduceBEq, Bool.or_false, Bool.or_true, Bool.false_or, Bool.true_or, Bool.and_true, Bool.and_false, Bool.true_and, Bool.false_and, decide_true, decide_false, List.all_cons, List.all_nil, List.any_cons, List.any_nil, beq_self_eq_true, Dz.rEqv_int, Dz.rEqv_str, Dz.rEqv_bl, spTx_iff, spTt_iff]
      refine ⟨by decide, rp _ _ ?_⟩
      refine ⟨by omega, by omega, by omega, by omega, by decide, hT.1, by omega, by omega, hu.1, by omega, by omega, by decide, .lst [dtx T, dtx u], 1, rfl, ⟨by decide, by simp, ?_, ?_, trivial⟩, by decide, by decide, ?_⟩
      · exact tx_ok hT.2.2.2
      · exact tx_ok hu.2.2.2
      · simp only [Dz.dSeq, Dz.dIf, Dz.dB, Dz.dOp, Dz.dUn, Dz.dVar, Dz.dC, Dz.dRet, Dz.dRetN, Dz.dNx, Dz.dBrk, Dz.dCnt, Dz.dAsg, Dz.dSet, Dz.dPar, Dz.dPar3, Dz.dgT, Dz.dgTt, Dz.dgCons, Dz.dgNil, Dz.dgN, Dz.dCall, Dz.dCons, Dz.dNil, Dz.dTup, Dz.dCB, Dz.dCN, Dz.dF, Dz.dM, Dz.dSz, Dz.dExpr, Dz.dNot, Dz.dAnd, Dz.dOr, Dz.dAndV, Dz.dOrV, Dz.dNotV, Dz.dIfE, Dz.dChain, Dz.dFrz, Dz.dIt, Dz.dRng1, Dz.dRng2, Dz.dSl, Dz.dNoPart, Dz.dPart, Dz.dCat, Dz.dRep, Dz.dLc, Dz.dFor, Dz.dAppend, Dz.dPop, Dz.dPopAt, Dz.rPopAtD, Dz.dSetIx, Dz.dYes, Dz.dRev, Dz.asI, Dz.asQ, Dz.asL, Dz.rIsN, Dz.rIs, Dz.rIsNot, Dz.isNon_d, Dz.isNon_non, Dz.isNon_tup, Dz.isNon_lst, Dz.isNon_str, Dz.isNon_int, Dz.isNon_bl, Dz.isNon_ref, Dz.isNon_dic, Dz.isNon_ty, Dz.rAddU, Dz.rSub, Dz.rMod, Dz.rDiv, Dz.rPow, Dz.rLt, Dz.rLe, Dz.rGt, Dz.rGe, Dz.rEq, Dz.rNe, Dz.rInt2, Dz.rMax2, Dz.rMin2, Dz.rI, Dz.rCmp, Dz.rIxU, Dz.rAbs, Dz.rToInt, Dz.rListU, Dz.rSlU, Dz.trk, Dz.rLenU, Dz.rMulU, Dz.rNeg, Dz.startD, Dz.wipeD, Dz.Sg.put_M, Dz.Sg.put_n, Dz.Sg.put_pv, Dz.Sg.del_M, Dz.Sg.del_n, Dz.Sg.del_pv, Dz.Mm.put_same, Dz.Mm.put_put, Dz.Sg.put_put, Dz.Mm.put_ne, Dz.Mm.del_ne, Dz.rIsi, Dz.tyN, Dz.tyNames, Dz.isiT, Dz.subT, Dz.tyOk, Dz.tyNames, Dz.Sg.put_mk, Dz.Sg.del_mk, Dz.spend_M, Dz.spend_pv, Dz.spend_n, Dz.spend_spend, Dz.spend_put, Dz.spend_del, Dz.spNext_iff, Dz.asI_lst, Dz.asI_tup, Dz.dFJ, Dz.dJs, Dz.dFmt, Dz.Tr.isNil, List.map_cons, List.map_nil, List.length_cons, List.length_nil, List.length_map, List.length_set, List.replicate, Nat.reduceSub, Nat.reduceAdd, List.cons_append, List.nil_append, List.getElem?_cons_zero, List.getElem?_cons_succ, List.set_cons_zero, List.set_cons_succ, if_true, if_false, Bool.false_eq_true, id, Nat.sub_zero, Bool.not_true, Bool.not_false, true_and, and_true, ne_eq, not_false_eq_true, not_true_eq_false, reduceCtorEq, Option.map_some, Option.bind_some, String.reduceBEq, Bool.or_false, Bool.or_true, Bool.false_or, Bool.true_or, Bool.and_true, Bool.and_false, Bool.true_and, Bool.false_and, decide_true, decide_false, List.all_cons, List.all_nil, List.any_cons, List.any_nil, beq_self_eq_true, Dz.rEqv_int, Dz.rEqv_str, Dz.rEqv_bl, spTx_iff, spTt_iff, j0, j1, eT, dtx]
        have ee : decide (mkS (tx T) = mkS (tx u)) = decide (T = u) := by
          rw [decide_eq_decide, mkS_iff, tx_inj hT.2.2.2 hu.2.2.2]
        rw [ee]
        simp only [decide_true, Bool.not_true, if_neg Bool.false_ne_true]
        refine ⟨by decide, rp _ _ ?_⟩
        simp only [Dz.dSeq, Dz.dIf, Dz.dB, Dz.dOp, Dz.dUn, Dz.dVar, Dz.dC, Dz.dRet, Dz.dRetN, Dz.dNx, Dz.dBrk, Dz.dCnt, Dz.dAsg, Dz.dSet, Dz.dPar, Dz.dPar3, Dz.dgT, Dz.dgTt, Dz.dgCons, Dz.dgNil, Dz.dgN, Dz.dCall, Dz.dCons, Dz.dNil, Dz.dTup, Dz.dCB, Dz.dCN, Dz.dF, Dz.dM, Dz.dSz, Dz.dExpr, Dz.dNot, Dz.dAnd, Dz.dOr, Dz.dAndV, Dz.dOrV, Dz.dNotV, Dz.dIfE, Dz.dChain, Dz.dFrz, Dz.dIt, Dz.dRng1, Dz.dRng2, Dz.dSl, Dz.dNoPart, Dz.dPart, Dz.dCat, Dz.dRep, Dz.dLc, Dz.dFor, Dz.dAppend, Dz.dPop, Dz.dPopAt, Dz.rPopAtD, Dz.dSetIx, Dz.dYes, Dz.dRev, Dz.asI, Dz.asQ, Dz.asL, Dz.rIsN, Dz.rIs, Dz.rIsNot, Dz.isNon_d, Dz.isNon_non, Dz.isNon_tup, Dz.isNon_lst, Dz.isNon_str, Dz.isNon_int, Dz.isNon_bl, Dz.isNon_ref, Dz.isNon_dic, Dz.isNon_ty, Dz.rAddU, Dz.rSub, Dz.rMod, Dz.rDiv, Dz.rPow, Dz.rLt, Dz.rLe, Dz.rGt, Dz.rGe, Dz.rEq, Dz.rNe, Dz.rInt2, Dz.rMax2, Dz.rMin2, Dz.rI, Dz.rCmp, Dz.rIxU, Dz.rAbs, Dz.rToInt, Dz.rListU, Dz.rSlU, Dz.trk, Dz.rLenU, Dz.rMulU, Dz.rNeg, Dz.startD, Dz.wipeD, Dz.Sg.put_M, Dz.Sg.put_n, Dz.Sg.put_pv, Dz.Sg.del_M, Dz.Sg.del_n, Dz.Sg.del_pv, Dz.Mm.put_same, Dz.Mm.put_put, Dz.Sg.put_put, Dz.Mm.put_ne, Dz.Mm.del_ne, Dz.rIsi, Dz.tyN, Dz.tyNames, Dz.isiT, Dz.subT, Dz.tyOk, Dz.tyNames, Dz.Sg.put_mk, Dz.Sg.del_mk, Dz.spend_M, Dz.spend_pv, Dz.spend_n, Dz.spend_spend, Dz.spend_put, Dz.spend_del, Dz.spNext_iff, Dz.asI_lst, Dz.asI_tup, Dz.dFJ, Dz.dJs, Dz.dFmt, Dz.Tr.isNil, List.map_cons, List.map_nil, List.length_cons, List.length_nil, List.length_map, List.length_set, List.replicate, Nat.reduceSub, Nat.reduceAdd, List.cons_append, List.nil_append, List.getElem?_cons_zero, List.getElem?_cons_succ, List.set_cons_zero, List.set_cons_succ, if_true, if_false, Bool.false_eq_true, id, Nat.sub_zero, Bool.not_true, Bool.not_false, true_and, and_true, ne_eq, not_false_eq_true, not_true_eq_false, reduceCtorEq, Option.map_some, Option.bind_some, String.reduceBEq, Bool.or_false, Bool.or_true, Bool.false_or, Bool.true_or, Bool.and_true, Bool.and_false, Bool.true_and, Bool.false_and, decide_true, decide_false, List.all_cons, List.all_nil, List.any_cons, List.any_nil, beq_self_eq_true, Dz.rEqv_int, Dz.rEqv_str, Dz.rEqv_bl]
        refine ⟨hT.1, by omega, by omega, ?_⟩
        exact hM _ _ ⟨us, _, _, _, _, _, _, rfl, hv, rfl, rfl⟩
end Pr
namespace Pr
open PySem PySem.Spec PyProof.Rows L2 Dz
def dd0 : He.DefD := ⟨("mirrored", none), "mirrored", "mirrored", defArgs (top 1), defBody (top 1), defScope (top 1), [], []⟩
def dd1 : He.DefD := ⟨("tree_text", none), "tree_text", "tree_text", defArgs (top 8), defBody (top 8), defScope (top 8), [], []⟩
def dd2 : He.DefD := ⟨("child_text", none), "child_text", "child_text", defArgs (top 7), defBody (top 7), defScope (top 7), [], []⟩
def dd3 : He.DefD := ⟨("_law_deck", none), "_law_deck", "_law_deck", defArgs (top 10), defBody (top 10), defScope (top 10), [], []⟩
def dd4 : He.DefD := ⟨("_law_next", none), "_law_next", "_law_next", defArgs (top 11), defBody (top 11), defScope (top 11), [], []⟩
def dd5 : He.DefD := ⟨("_law_one", none), "_law_one", "_law_one", defArgs (top 12), defBody (top 12), defScope (top 12), [], []⟩
def dd6 : He.DefD := ⟨("_law_same", none), "_law_same", "_law_same", defArgs (top 13), defBody (top 13), defScope (top 13), [], []⟩
def dd7 : He.DefD := ⟨("_law_letters", none), "_law_letters", "_law_letters", defArgs (top 14), defBody (top 14), defScope (top 14), [], []⟩
def dd8 : He.DefD := ⟨("_law_grown", none), "_law_grown", "_law_grown", defArgs (top 15), defBody (top 15), defScope (top 15), [], []⟩
def dd9 : He.DefD := ⟨("_law_tree", none), "_law_tree", "_law_tree", defArgs (top 16), defBody (top 16), defScope (top 16), [], []⟩
def dd10 : He.DefD := ⟨("_law_text", none), "_law_text", "_law_text", defArgs (top 17), defBody (top 17), defScope (top 17), [], []⟩
def dd11 : He.DefD := ⟨("law", none), "law", "law", defArgs (top 18), defBody (top 18), defScope (top 18), [], []⟩
def fn : List He.DefD := [dd0, dd1, dd2, dd3, dd4, dd5, dd6, dd7, dd8, dd9, dd10, dd11]
def fa : List He.Fa := [.glo "mirrored", .glo "tree_text", .glo "child_text", .glo "_law_deck", .glo "_law_next", .glo "_law_one", .glo "_law_same", .glo "_law_letters", .glo "_law_grown", .glo "_law_tree", .glo "_law_text", .glo "law", .free "abs", .free "bool", .free "int", .free "isinstance", .free "len", .free "list", .free "range", .free "repr", .free "sorted", .free "str", .free "tuple", .str "CLOSE" ")", .str "COMMA" ",", .str "NOTHING" "-", .str "OPEN" "("]
abbrev RR : PySem.W.OpenRow := PySem.W.OpenLaw.row PySem.Challenge.rw_treewalks_k71_texts_of_trees
abbrev hk : PySem.W.Hook := He.hookD 4 fa fn
def ob (s : PySem.W.SharedT) : He.AlD := He.obsDG 4 fa fn (HandSHeadRun.getT s)
theorem ob_eq (s : PySem.W.SharedT) : ob s = hk.obs s.abs := He.obsDG_eq (HandSHeadRun.getT_eq s)
def loose : List Str := ["mirrored", "child_text", "tree_text", "_law_deck", "_law_next", "_law_one", "_law_same", "_law_letters", "_law_grown", "_law_tree", "_law_text", "OPEN", "COMMA", "CLOSE", "NOTHING"]
theorem run (w : World) : HandSHeadRun.RunEq RR (PySem.W.view RR.prog [18]) hk ob 3000 loose w := by
  intro os
  kernel_rfl
theorem chain {P : Program} {w : World} {K : PySem.W.Frag} {h : Heap} {mg : Str → Option Value} (X : K.In h) (G : h.Ns mainGlobals mg) (c : He.SaysD fa fn K) (base : Heap) {fL : Addr} {fdL : FuncData} (FL : FunD K "law" "law" (defArgs (top 18)) (defBody (top 18)) (defScope (top 18)) [] [] fL fdL) : FnG P w K mg base CX0 200 fL fdL ["_law_script"] (liftSp K spLaw) := by
  have B : Bi mg := ⟨He.free_ok X G (c.fact 12 (f := .free "abs") rfl), He.free_ok X G (c.fact 13 (f := .free "bool") rfl), He.free_ok X G (c.fact 14 (f := .free "int") rfl), He.free_ok X G (c.fact 15 (f := .free "isinstance") rfl), He.free_ok X G (c.fact 16 (f := .free "len") rfl), He.free_ok X G (c.fact 17 (f := .free "list") rfl), He.free_ok X G (c.fact 18 (f := .free "range") rfl), He.free_ok X G (c.fact 19 (f := .free "repr") rfl), He.free_ok X G (c.fact 20 (f := .free "sorted") rfl), He.free_ok X G (c.fact 21 (f := .free "str") rfl), He.free_ok X G (c.fact 22 (f := .free "tuple") rfl), He.str_ok X G (c.fact 23 (f := .str "CLOSE" ")") rfl), He.str_ok X G (c.fact 24 (f := .str "COMMA" ",") rfl), He.str_ok X G (c.fact 25 (f := .str "NOTHING" "-") rfl), He.str_ok X G (c.fact 26 (f := .str "OPEN" "(") rfl)⟩
  obtain ⟨fd0, F0⟩ := c.def_ 0 (d := dd0) rfl
  have m0 := He.glo_ok X G (c.fact 0 (f := .glo "mirrored") rfl)
  have q0 : Binds K fd0 ["tree"] [] := F0.bindsN fun _ _ _ _ _ _ us hl => match us, hl with | [_], _ => rfl
  obtain ⟨fd1, F1⟩ := c.def_ 1 (d := dd1) rfl
  have m1 := He.glo_ok X G (c.fact 1 (f := .glo "tree_text") rfl)
  have q1 : Binds K fd1 ["tree"] [] := F1.bindsN fun _ _ _ _ _ _ us hl => match us, hl with | [_], _ => rfl
  obtain ⟨fd2, F2⟩ := c.def_ 2 (d := dd2) rfl
  have m2 := He.glo_ok X G (c.fact 2 (f := .glo "child_text") rfl)
  have q2 : Binds K fd2 ["tree"] [] := F2.bindsN fun _ _ _ _ _ _ us hl => match us, hl with | [_], _ => rfl
  obtain ⟨fd3, F3⟩ := c.def_ 3 (d := dd3) rfl
  have m3 := He.glo_ok X G (c.fact 3 (f := .glo "_law_deck") rfl)
  have q3 : Binds K fd3 ["_law_script"] [] := F3.bindsN fun _ _ _ _ _ _ us hl => match us, hl with | [_], _ => rfl
  obtain ⟨fd4, F4⟩ := c.def_ 4 (d := dd4) rfl
  have m4 := He.glo_ok X G (c.fact 4 (f := .glo "_law_next") rfl)
  have q4 : Binds K fd4 ["_law_deck_here", "_law_many"] [] := F4.bindsN fun _ _ _ _ _ _ us hl => match us, hl with | [_, _], _ => rfl
  obtain ⟨fd5, F5⟩ := c.def_ 5 (d := dd5) rfl
  have m5 := He.glo_ok X G (c.fact 5 (f := .glo "_law_one") rfl)
  have q5 : Binds K fd5 ["_law_deck_here", "_law_items"] [] := F5.bindsN fun _ _ _ _ _ _ us hl => match us, hl with | [_, _], _ => rfl
  obtain ⟨fd6, F6⟩ := c.def_ 6 (d := dd6) rfl
  have m6 := He.glo_ok X G (c.fact 6 (f := .glo "_law_same") rfl)
  have q6 : Binds K fd6 ["_law_found", "_law_due"] [] := F6.bindsN fun _ _ _ _ _ _ us hl => match us, hl with | [_, _], _ => rfl
  obtain ⟨fd7, F7⟩ := c.def_ 7 (d := dd7) rfl
  have m7 := He.glo_ok X G (c.fact 7 (f := .glo "_law_letters") rfl)
  have q7 : Binds K fd7 ["_law_deck_here", "_law_size"] [] := F7.bindsN fun _ _ _ _ _ _ us hl => match us, hl with | [_, _], _ => rfl
  obtain ⟨fd8, F8⟩ := c.def_ 8 (d := dd8) rfl
  have m8 := He.glo_ok X G (c.fact 8 (f := .glo "_law_grown") rfl)
  have q8 : Binds K fd8 ["_law_deck_here", "_law_size", "_law_way", "_law_letters_here"] [] := F8.bindsN fun _ _ _ _ _ _ us hl => match us, hl with | [_, _, _, _], _ => rfl
  obtain ⟨fd9, F9⟩ := c.def_ 9 (d := dd9) rfl
  have m9 := He.glo_ok X G (c.fact 9 (f := .glo "_law_tree") rfl)
  have q9 : Binds K fd9 ["_law_deck_here", "_law_limit"] [] := F9.bindsN fun _ _ _ _ _ _ us hl => match us, hl with | [_, _], _ => rfl
  obtain ⟨fd10, F10⟩ := c.def_ 10 (d := dd10) rfl
  have m10 := He.glo_ok X G (c.fact 10 (f := .glo "_law_text") rfl)
  have q10 : Binds K fd10 ["_law_tree_here"] [] := F10.bindsN fun _ _ _ _ _ _ us hl => match us, hl with | [_], _ => rfl
  have A_mirrored : ∀ n, Df P w K mg base CX0 (0 + n) "mirrored" ["tree"] (spT (fun t => t.mir.d) n) := fun n => by
    induction n with
    | zero => exact df_false F0 m0 q0 (by rintro _ _ _ _ ⟨_, _, h, _⟩; exact absurd h (Nat.not_lt_zero _))
    | succ n ih => exact df_of (k := 0 + n) F0 sc_mirrored m0 q0 (fun _ _ _ _ _ _ hr hg => b_mirrored B hr hg ih (by omega)) (sem_plain (e_mirrored n)) (fun _ _ _ _ h => h)
  have D_mirrored := A_mirrored 62
  have A_text : ∀ n, Df P w K mg base CX0 (2 * n) "tree_text" ["tree"] (spTt n) ∧ Df P w K mg base CX0 (2 * n + 1) "child_text" ["tree"] (spTx n) := fun n => by
    induction n with
    | zero =>
      have D0 : Df P w K mg base CX0 (2 * 0) "tree_text" ["tree"] (spTt 0) := df_false F1 m1 q1 (by rintro _ _ _ _ ⟨_, _, _, h, _⟩; exact absurd h (Nat.not_lt_zero _))
      exact ⟨D0, df_of (k := 2 * 0) F2 sc_child_text m2 q2 (fun _ _ _ _ _ _ hr hg => b_child_text B hr hg D0 (Nat.le_refl _)) (sem_plain (e_child_text 0)) (fun _ _ _ _ h => h)⟩
    | succ n ih =>
      have D1 : Df P w K mg base CX0 (2 * n + 1 + 1) "tree_text" ["tree"] (spTt (n + 1)) := df_of (k := 2 * n + 1) F1 sc_tree_text m1 q1 (fun _ _ _ _ _ _ hr hg => b_tree_text B hr hg ih.2 (Nat.le_refl _)) (sem_plain (e_tree_text n)) (fun _ _ _ _ h => h)
      exact ⟨D1, df_of (k := 2 * n + 1 + 1) F2 sc_child_text m2 q2 (fun _ _ _ _ _ _ hr hg => b_child_text B hr hg D1 (Nat.le_refl _)) (sem_plain (e_child_text (n + 1))) (fun _ _ _ _ h => h)⟩
  have D_tree_text := (A_text 62).1
  have D_child_text := (A_text 62).2
  have D_law_deck : Df P w K mg base CX0 (0 + 1) "_law_deck" ["_law_script"] spDeck := df_of (k := 0) F3 sc_law_deck m3 q3 (fun _ _ _ _ _ _ hr hg => b_law_deck B hr hg ) (sem_plain (e_law_deck)) (fun _ _ _ _ h => h)
  have D_law_next : Df P w K mg base CX0 (0 + 1) "_law_next" ["_law_deck_here", "_law_many"] spNext := df_of (k := 0) F4 sc_law_next m4 q4 (fun _ _ _ _ _ _ hr hg => b_law_next B hr hg ) (e_law_next) (fun _ _ _ _ h => h)
  have D_law_one : Df P w K mg base CX0 (1 + 1) "_law_one" ["_law_deck_here", "_law_items"] spOne := df_of (k := 1) F5 sc_law_one m5 q5 (fun _ _ _ _ _ _ hr hg => b_law_one B hr hg D_law_next (by omega)) (sem_plain (e_law_one)) (fun _ _ _ _ h => h)
  have A_law_same : ∀ n, Df P w K mg base CX0 (0 + n) "_law_same" ["_law_found", "_law_due"] (spSame n) := fun n => by
    induction n with
    | zero => exact df_false F6 m6 q6 (by rintro _ _ _ _ ⟨_, _, _, _, h, _⟩; exact absurd h (Nat.not_lt_zero _))
    | succ n ih => exact df_of (k := 0 + n) F6 sc_law_same m6 q6 (fun _ _ _ _ _ _ hr hg => b_law_same B hr hg ih (by omega)) (sem_plain (e_law_same n)) (fun _ _ _ _ h => h)
  have D_law_same := A_law_same 70
  have D_law_letters : Df P w K mg base CX0 (1 + 1) "_law_letters" ["_law_deck_here", "_law_size"] spLetters := df_of (k := 1) F7 sc_law_letters m7 q7 (fun _ _ _ _ _ _ hr hg => b_law_letters B hr hg D_law_next (by omega)) (sem_plain (e_law_letters)) (fun _ _ _ _ h => h)
  have A_law_grown : ∀ n, Df P w K mg base CX0 (1 + n) "_law_grown" ["_law_deck_here", "_law_size", "_law_way", "_law_letters_here"] (spGrown n) := fun n => by
    induction n with
    | zero => exact df_false F8 m8 q8 (by rintro _ _ _ _ ⟨_, _, _, _, _, _, _, _, _, h, _⟩; exact absurd h (Nat.not_lt_zero _))
    | succ n ih => exact df_of (k := 1 + n) F8 sc_law_grown m8 q8 (fun _ _ _ _ _ _ hr hg => b_law_grown B hr hg D_law_next (by omega) ih (by omega)) (sem_plain (e_law_grown n)) (fun _ _ _ _ h => h)
  have D_law_grown := A_law_grown 30
  have D_law_tree : Df P w K mg base CX0 (31 + 1) "_law_tree" ["_law_deck_here", "_law_limit"] spTreeAny := df_of (k := 31) F9 sc_law_tree m9 q9 (fun _ _ _ _ _ _ hr hg => b_law_tree B hr hg D_law_next (by omega) D_law_grown (by omega) D_law_letters (by omega)) (sem_plain (e_law_tree_any)) (fun _ _ _ _ h => h)
  have A_law_text : ∀ n, Df P w K mg base CX0 (0 + n) "_law_text" ["_law_tree_here"] (spTx n) := fun n => by
    induction n with
    | zero => exact df_false F10 m10 q10 (by rintro _ _ _ _ ⟨_, _, h, _⟩; exact absurd h (Nat.not_lt_zero _))
    | succ n ih => exact df_of (k := 0 + n) F10 sc_law_text m10 q10 (fun _ _ _ _ _ _ hr hg => b_law_text B hr hg ih (by omega)) (sem_plain (e_law_text n)) (fun _ _ _ _ h => h)
  have D_law_text := A_law_text 62
  exact (dfG_of (k := 124) FL sc_law (fun _ _ _ _ _ _ hr hg => b_law B hr hg D_law_deck (by omega) D_law_same (by omega) D_tree_text (by omega) D_law_tree (by omega) D_law_one (by omega) D_mirrored (by omega) D_law_text (by omega)) (sem_plain e_law) (fun _ _ _ _ h => h)).mono (by omega)
end Pr
open PySem PySem.W PySem.Calls PyProof.Rows
theorem PySem.Challenge.cw_treewalks_k71_texts_of_trees_holds : PySem.Challenge.rw_treewalks_k71_texts_of_trees.Holds := by
  w_on; o_law
  refine HandSHeadRun.head_any (r := OpenLaw.row PySem.Challenge.rw_treewalks_k71_texts_of_trees) (q := view (OpenLaw.row PySem.Challenge.rw_treewalks_k71_texts_of_trees).prog [18]) (H := Pr.hk) (ob := Pr.ob) (M := 3000) (loose := Pr.loose) (d := HandSHeadRun.topDef (OpenLaw.row PySem.Challenge.rw_treewalks_k71_texts_of_trees).prog 18) (kwd := []) Pr.ob_eq
    (by kernel_rfl) (fun s => by kernel_rfl) Pr.run (by kernel_rfl) (by kernel_rfl) (by kernel_rfl) (by rfl) (by first | assumption | decide +kernel) (by decide +kernel) ⟨rfl, rfl, rfl, rfl, rfl, by decide +kernel⟩ ?hw ?hc
  case hw => w_witness2
  case hc =>
    refine Dz.walkG (l := PySem.Challenge.rw_treewalks_k71_texts_of_trees) (n := 63) (k := 200) (x := "_law_script") (CX := fun _ => L2.CX0) rfl (by rw [sizeLine_eq]; decide) (by kernel_rfl) ⟨rfl, by decide, by decide⟩ ?F (fun _ _ _ _ _ z => z)
    intro w mg fa h Y G hmg0
    obtain ⟨K, KX, c⟩ := Y
    have hmg : mg ("law" : PySem.Str) = some (.ref fa) := by
      have e : (HandSHeadRun.topDef (OpenLaw.row PySem.Challenge.rw_treewalks_k71_texts_of_trees).prog 18).name = ("law" : PySem.Str) := by kernel_rfl
      rw [← e]
      exact hmg0
    obtain ⟨fd, F⟩ := c.def_ 11 (d := Pr.dd11) rfl
    have e := hmg.symm.trans (He.glo_ok KX G (c.fact 11 (f := .glo "law") rfl))
    cases e
    have b := L2.FunD.bindsA (ps := ["_law_script"]) F fun _ _ _ _ _ _ us hl => match us, hl with | [_], _ => rfl
    exact ⟨K, fd, Pr.spLaw, KX, fun s v => b s [v] rfl, fun ns hl hb => ⟨ns, rfl, rfl, fun _ => rfl⟩, fun base _ _ => Pr.chain KX G c base F⟩
